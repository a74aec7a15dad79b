import PyProof.Rows.All
import Wide.All
import OpenK.AllK
import Wide.FinOn
import HandS.ForMost
import HandS.Conv
import HandS.More
import HandS.SortInts
import HandS.Wide
import HandS.Walk
import HandS.Style
import HandS.Flow
import HandS.Deep
import HandS.TupAny
import KE.GoesMore
import KE.KSortedM
import HandS.Strs
import HandS.SetFor
import HandS.TupSets
import HandS.IsInst
import HandS.NoneIn
import KE.DataMinMax
import KE.KDictZip
import KE.SortData
import PySem.Challenge.RW_catchup_k03_hearers
set_option Elab.async false
set_option linter.all false
set_option autoImplicit false
set_option maxRecDepth 100000
set_option maxHeartbeats 4000000
/-! Part 0: what stays, what changes; data as they lie; calls by name -/
namespace Cu
open PySem PySem.Spec PyProof.Rows L2

/-- what never changes -/
def Imm : HO → Prop
  | .tup _ => True
  | .frz _ _ => True
  | _ => False
theorem nl {xs : List V} : ¬ Imm (.lst xs) := fun h => h
theorem ndk {xs : List (Key × V)} : ¬ Imm (.dK xs) := fun h => h
def Mono (H H' : Hp) : Prop := ∀ b o, H b = some o → Imm o → H' b = some o
theorem Mono.refl (H : Hp) : Mono H H := fun _ _ h _ => h
theorem Mono.trans {H H1 H2 : Hp} (a : Mono H H1) (b : Mono H1 H2) : Mono H H2 := fun c o h i => b c o (a c o h i) i
theorem Mono.new {H : Hp} {p : Addr} {o : HO} (h : H p = none) : Mono H (upd H p o) := fun b u e _ => by
  rw [upd_ne (ne_of_none e h)]
  exact e
theorem Mono.put {H : Hp} {a : Addr} {o o' : HO} (h : H a = some o) (n : ¬ Imm o) : Mono H (upd H a o') := fun b u e i => by
  by_cases hb : b = a
  · subst hb
    rw [h] at e
    cases e
    exact absurd i n
  · rw [upd_ne hb]
    exact e

/-- the changing objects one owns -/
abbrev Lg := List (Addr × HO)
structure Has (H : Hp) (l : Lg) : Prop where
  nd : (l.map Prod.fst).Nodup
  at_ : ∀ p ∈ l, H p.1 = some p.2 ∧ ¬ Imm p.2
section
variable {H H' : Hp} {l l' : Lg} {a p : Addr} {o o' : HO}
theorem Has.nil : Has H [] := ⟨List.nodup_nil, fun _ h => (nomatch h)⟩
theorem Has.mem (h : Has H l) (m : (a, o) ∈ l) : H a = some o := (h.at_ _ m).1
theorem Has.head (h : Has H ((a, o) :: l)) : H a = some o := (h.at_ _ List.mem_cons_self).1
theorem Has.tail (h : Has H ((a, o) :: l)) : Has H l := ⟨(List.nodup_cons.mp h.nd).2, fun p m => h.at_ p (List.mem_cons_of_mem _ m)⟩
theorem Has.notin (h : Has H l) (f : H p = none) : p ∉ l.map Prod.fst := fun m => by
  obtain ⟨q, hq, e⟩ := List.mem_map.mp m
  have := (h.at_ q hq).1
  rw [e, f] at this
  cases this
theorem Has.ne (h : Has H l) (f : H p = none) {q : Addr × HO} (m : q ∈ l) : q.1 ≠ p := fun e => h.notin f (by rw [← e]; exact List.mem_map_of_mem m)
/-- an object that is not ours is made or written -/
theorem Has.off (h : Has H l) (n : p ∉ l.map Prod.fst) : Has (upd H p o) l := ⟨h.nd, fun q m => ⟨by
  rw [upd_ne (fun e => n (by rw [← e]; exact List.mem_map_of_mem m))]
  exact (h.at_ q m).1, (h.at_ q m).2⟩⟩
theorem Has.old (h : Has H l) (f : H p = none) : Has (upd H p o) l := h.off (h.notin f)
theorem Has.new (h : Has H l) (f : H p = none) (n : ¬ Imm o) : Has (upd H p o) ((p, o) :: l) :=
  ⟨List.nodup_cons.mpr ⟨h.notin f, h.nd⟩, fun q m => by
    rcases List.mem_cons.mp m with e | m
    · subst e
      exact ⟨upd_same, n⟩
    · exact (h.old f).at_ q m⟩
theorem Has.put (h : Has H ((a, o) :: l)) (n : ¬ Imm o') : Has (upd H a o') ((a, o') :: l) :=
  ⟨h.nd, fun q m => by
    rcases List.mem_cons.mp m with e | m
    · subst e
      exact ⟨upd_same, n⟩
    · exact (h.tail.off (List.nodup_cons.mp h.nd).1).at_ q m⟩
theorem Has.perm (h : Has H l) (e : l.Perm l') : Has H l' := ⟨(e.map Prod.fst).nodup_iff.mp h.nd, fun q m => h.at_ q (e.mem_iff.mpr m)⟩
theorem Has.sub (h : Has H l) (e : l'.Sublist l) : Has H l' := ⟨h.nd.sublist (e.map Prod.fst), fun q m => h.at_ q (e.subset m)⟩
theorem Has.mono_put (h : Has H ((a, o) :: l)) : Mono H (upd H a o') := Mono.put h.head (h.at_ _ List.mem_cons_self).2
theorem Has.right {l2 : Lg} (h : Has H (l ++ l2)) : Has H l2 := h.sub (List.sublist_append_right _ _)
theorem Has.left {l2 : Lg} (h : Has H (l ++ l2)) : Has H l := h.sub (List.sublist_append_left _ _)
theorem Has.comm {l2 : Lg} (h : Has H (l ++ l2)) : Has H (l2 ++ l) := h.perm List.perm_append_comm
/-- the first part goes behind the second -/
theorem Has.swap {l2 l3 : Lg} (h : Has H (l ++ (l2 ++ l3))) : Has H (l2 ++ (l ++ l3)) := h.perm (by
  rw [← List.append_assoc, ← List.append_assoc]
  exact List.Perm.append_right _ List.perm_append_comm)
theorem Has.swap1 {q : Addr × HO} {l3 : Lg} (h : Has H (q :: (l ++ l3))) : Has H (l ++ (q :: l3)) := h.perm List.perm_middle.symm
theorem Has.unswap1 {q : Addr × HO} {l3 : Lg} (h : Has H (l ++ (q :: l3))) : Has H (q :: (l ++ l3)) := h.perm List.perm_middle
theorem Has.swap2 {q r : Addr × HO} (h : Has H (q :: r :: l)) : Has H (r :: q :: l) := h.perm (List.Perm.swap _ _ _)
end

section
variable {K : PySem.W.Frag} {H H' : Hp} {a : Addr} {xs : List V}
/-- a list that stays -/
def FzL (K : PySem.W.Frag) (H : Hp) (a : Addr) (xs : List V) : Prop := ∀ H', Mono H H' → SqL K H' a xs
theorem FzL.mono (h : FzL K H a xs) (m : Mono H H') : FzL K H' a xs := fun H2 m2 => h H2 (m.trans m2)
theorem FzL.sq (h : FzL K H a xs) : SqL K H a xs := h H (Mono.refl H)
theorem FzL.of {o : Obj} (h : H a = some (.frz o (.lst xs))) : FzL K H a xs := fun H' m => Or.inl (Or.inr ⟨o, m _ _ h trivial⟩)
theorem FzL.only (h : Only H) (s : SqL K H a xs) : FzL K H a xs := by
  rcases s with (s | ⟨o, s⟩) | s
  · rcases h a with e | ⟨o, ys, e⟩
    · rw [e] at s
      cases s
    · rw [e] at s
      cases s
  · exact FzL.of s
  · exact fun _ _ => Or.inr s
theorem FzL.frz {o : Obj} : FzL K (upd H a (.frz o (.lst xs))) a xs := FzL.of upd_same
end

/-- a reading that is opened by its own lemma alone -/
@[irreducible] def tI (t : TE) : TE := t
theorem rd_I {t : TE} {σ : L2.St} {H : Hp} {Q : VK} (h : t σ H Q) : tI t σ H Q := by
  unfold tI
  exact h
theorem pe_I {X : Cx} {e : Expr} {t : TE} (h : PE X e t) : PE X e (tI t) := by
  unfold tI
  exact h
/-- e, a new list, from now on never changed -/
@[irreducible] def tFz (t : TE) : TE := fun σ H Q => t σ H fun v H1 => ∃ a xs, v = .ref a ∧ H1 a = some (.lst xs) ∧ ∀ o, Q (.ref a) (upd H1 a (.frz o (.lst xs)))
theorem rd_fz {t : TE} {σ : L2.St} {H : Hp} {Q : VK} (h : t σ H fun v H1 => ∃ a xs, v = .ref a ∧ H1 a = some (.lst xs) ∧ ∀ o, Q (.ref a) (upd H1 a (.frz o (.lst xs)))) : tFz t σ H Q := by
  unfold tFz
  exact h
theorem pe_fz {X : Cx} {e : Expr} {t : TE} (h : PE X e t) : PE X e (tFz t) := ⟨fun pins s σ H Q I hw => by
  unfold tFz at hw
  exact thn (h.run pins s σ H _ I hw) fun u s1 ⟨v, H1, I1, r, a, xs, ev, ha, q⟩ => by
    subst ev
    obtain ⟨od, I2⟩ := I1.lock ha trivial
    exact ⟨_, _, I2, r, q od⟩⟩

/-! ### data -/
mutual
def Rp (K : PySem.W.Frag) (H : Hp) : PyData → V → Prop
  | .none, v => v = .non
  | .bool b, v => v = .bl b
  | .int i, v => v = .int i
  | .str s, v => v = .str s
  | .list ds, v => ∃ a xs, v = .ref a ∧ FzL K H a xs ∧ RpL K H ds xs
  | .tuple ds, v => ∃ a xs, v = .ref a ∧ H a = some (.tup xs) ∧ RpL K H ds xs
  | .dict _, _ => False
def RpL (K : PySem.W.Frag) (H : Hp) : List PyData → List V → Prop
  | [], vs => vs = []
  | d :: ds, vs => ∃ v r, vs = v :: r ∧ Rp K H d v ∧ RpL K H ds r
end
section
variable {K : PySem.W.Frag} {H H' : Hp}
mutual
theorem Rp.mono (m : Mono H H') : ∀ {d : PyData} {v : V}, Rp K H d v → Rp K H' d v
  | .none, _, h => by rw [Rp] at h ⊢; exact h
  | .bool _, _, h => by rw [Rp] at h ⊢; exact h
  | .int _, _, h => by rw [Rp] at h ⊢; exact h
  | .str _, _, h => by rw [Rp] at h ⊢; exact h
  | .list ds, _, h => by
    rw [Rp] at h ⊢
    obtain ⟨a, xs, e, f, r⟩ := h
    exact ⟨a, xs, e, f.mono m, RpL.mono m r⟩
  | .tuple ds, _, h => by
    rw [Rp] at h ⊢
    obtain ⟨a, xs, e, f, r⟩ := h
    exact ⟨a, xs, e, m _ _ f trivial, RpL.mono m r⟩
  | .dict _, _, h => by rw [Rp] at h; exact h.elim
theorem RpL.mono (m : Mono H H') : ∀ {ds : List PyData} {vs : List V}, RpL K H ds vs → RpL K H' ds vs
  | [], _, h => by rw [RpL] at h ⊢; exact h
  | d :: ds, _, h => by
    rw [RpL] at h ⊢
    obtain ⟨v, r, e, h1, h2⟩ := h
    exact ⟨v, r, e, Rp.mono m h1, RpL.mono m h2⟩
end
mutual
theorem Rp.dp : ∀ {d : PyData} {v : V}, Rp K H d v → Dp K H v d
  | .none, _, h => by rw [Rp] at h; subst h; exact .non
  | .bool _, _, h => by rw [Rp] at h; subst h; exact .bl _
  | .int _, _, h => by rw [Rp] at h; subst h; exact .int _
  | .str _, _, h => by rw [Rp] at h; subst h; exact .str _
  | .list ds, _, h => by
    rw [Rp] at h
    obtain ⟨a, xs, e, f, r⟩ := h
    subst e
    exact .lst f.sq (RpL.dp r)
  | .tuple ds, _, h => by
    rw [Rp] at h
    obtain ⟨a, xs, e, f, r⟩ := h
    subst e
    exact .tup (SqT.of f) (RpL.dp r)
  | .dict _, _, h => by rw [Rp] at h; exact h.elim
theorem RpL.dp : ∀ {ds : List PyData} {vs : List V}, RpL K H ds vs → DpAll K H vs ds
  | [], _, h => by rw [RpL] at h; subst h; exact .nil
  | d :: ds, _, h => by
    rw [RpL] at h
    obtain ⟨v, r, e, h1, h2⟩ := h
    subst e
    exact .cons (Rp.dp h1) (RpL.dp h2)
end
theorem RpL.length : ∀ {ds : List PyData} {vs : List V}, RpL K H ds vs → vs.length = ds.length
  | [], _, h => by rw [RpL] at h; subst h; rfl
  | d :: ds, _, h => by
    rw [RpL] at h
    obtain ⟨v, r, e, _, h2⟩ := h
    subst e
    rw [List.length_cons, List.length_cons, h2.length]
theorem RpL.get : ∀ {ds : List PyData} {vs : List V} {i : Nat} {d : PyData}, RpL K H ds vs → ds[i]? = some d → ∃ v, vs[i]? = some v ∧ Rp K H d v
  | [], _, _, _, _, e => by simp at e
  | d :: ds, _, i, d', h, e => by
    rw [RpL] at h
    obtain ⟨v, r, e1, h1, h2⟩ := h
    subst e1
    cases i with
    | zero =>
      have e2 : d = d' := by simpa using e
      subst e2
      exact ⟨v, rfl, h1⟩
    | succ i => exact h2.get (by simpa using e)
theorem RpL.nil : RpL K H [] [] := by rw [RpL]
theorem RpL.cons {d : PyData} {ds : List PyData} {v : V} {vs : List V} (h : Rp K H d v) (r : RpL K H ds vs) : RpL K H (d :: ds) (v :: vs) := by
  rw [RpL]
  exact ⟨v, vs, rfl, h, r⟩
theorem RpL.append : ∀ {ds es : List PyData} {vs us : List V}, RpL K H ds vs → RpL K H es us → RpL K H (ds ++ es) (vs ++ us)
  | [], _, _, _, h, g => by rw [RpL] at h; subst h; exact g
  | d :: ds, _, _, _, h, g => by
    rw [RpL] at h
    obtain ⟨v, r, e1, h1, h2⟩ := h
    subst e1
    exact .cons h1 (h2.append g)
theorem RpL.snoc {ds : List PyData} {vs : List V} {d : PyData} {v : V} (h : RpL K H ds vs) (g : Rp K H d v) : RpL K H (ds ++ [d]) (vs ++ [v]) := h.append (.cons g .nil)
theorem RpL.take : ∀ {ds : List PyData} {vs : List V} (n : Nat), RpL K H ds vs → RpL K H (ds.take n) (vs.take n)
  | [], _, n, h => by rw [RpL] at h; subst h; simpa using RpL.nil
  | d :: ds, _, n, h => by
    rw [RpL] at h
    obtain ⟨v, r, e1, h1, h2⟩ := h
    subst e1
    cases n with
    | zero => exact .nil
    | succ n => exact .cons h1 (h2.take n)
theorem RpL.drop : ∀ {ds : List PyData} {vs : List V} (n : Nat), RpL K H ds vs → RpL K H (ds.drop n) (vs.drop n)
  | [], _, n, h => by rw [RpL] at h; subst h; simpa using RpL.nil
  | d :: ds, _, n, h => by
    rw [RpL] at h
    obtain ⟨v, r, e1, h1, h2⟩ := h
    subst e1
    cases n with
    | zero => exact .cons h1 h2
    | succ n => exact h2.drop n
theorem Rp.int_iff {i : Int} {v : V} : Rp K H (.int i) v ↔ v = .int i := by rw [Rp]
theorem Rp.str_iff {i : Str} {v : V} : Rp K H (.str i) v ↔ v = .str i := by rw [Rp]
theorem Rp.bool_iff {i : Bool} {v : V} : Rp K H (.bool i) v ↔ v = .bl i := by rw [Rp]
theorem Rp.none_iff {v : V} : Rp K H .none v ↔ v = .non := by rw [Rp]
theorem Rp.int {i : Int} : Rp K H (.int i) (.int i) := by rw [Rp]
theorem Rp.str {i : Str} : Rp K H (.str i) (.str i) := by rw [Rp]
theorem Rp.bool {i : Bool} : Rp K H (.bool i) (.bl i) := by rw [Rp]
theorem Rp.non : Rp K H .none .non := by rw [Rp]
theorem Rp.tup {ds : List PyData} {a : Addr} {xs : List V} (h : H a = some (.tup xs)) (r : RpL K H ds xs) : Rp K H (.tuple ds) (.ref a) := by
  rw [Rp]
  exact ⟨a, xs, rfl, h, r⟩
theorem Rp.lst {ds : List PyData} {a : Addr} {xs : List V} (h : FzL K H a xs) (r : RpL K H ds xs) : Rp K H (.list ds) (.ref a) := by
  rw [Rp]
  exact ⟨a, xs, rfl, h, r⟩
theorem Rp.tup_inv {ds : List PyData} {v : V} (h : Rp K H (.tuple ds) v) : ∃ a xs, v = .ref a ∧ H a = some (.tup xs) ∧ RpL K H ds xs := by rwa [Rp] at h
theorem Rp.lst_inv {ds : List PyData} {v : V} (h : Rp K H (.list ds) v) : ∃ a xs, v = .ref a ∧ FzL K H a xs ∧ RpL K H ds xs := by rwa [Rp] at h
theorem RpL.nil_inv {vs : List V} (h : RpL K H [] vs) : vs = [] := by rwa [RpL] at h
theorem RpL.cons_inv {d : PyData} {ds : List PyData} {vs : List V} (h : RpL K H (d :: ds) vs) : ∃ v r, vs = v :: r ∧ Rp K H d v ∧ RpL K H ds r := by rwa [RpL] at h
theorem RpL.ints : ∀ {ns : List Int} {vs : List V}, RpL K H (ns.map PyData.int) vs → vs = ns.map V.int
  | [], _, h => h.nil_inv
  | n :: ns, _, h => by
    obtain ⟨v, r, e, h1, h2⟩ := h.cons_inv
    rw [Rp.int_iff] at h1
    rw [e, h1, h2.ints]
    rfl
theorem RpL.of_ints : ∀ (ns : List Int), RpL K H (ns.map PyData.int) (ns.map V.int)
  | [] => .nil
  | n :: ns => .cons .int (RpL.of_ints ns)
theorem Dp.ints {a : Addr} {ns : List Int} (h : SqL K H a (ns.map V.int)) : Dp K H (.ref a) (.list (ns.map PyData.int)) := .lst h (RpL.dp (RpL.of_ints ns))
end

/-! ### a def of the top, a method, a class, by name -/
section
variable (P : Program) (w : World) (K : PySem.W.Frag) (mg : Str → Option Value) (base : Heap)
structure Gf (j : Nat) (x : Str) (ps : List Str) (sp : Sp) : Prop where
  ex : ∃ f fd, FnOk P w K mg base CX0 j f fd ps sp ∧ mg x = some (.ref f) ∧ PySem.W.keepIn K (.ref f) = true ∧ Binds K fd ps []
structure Mf (j : Nat) (C : Addr) (m : Str) (ps : List Str) (sp : Sp) : Prop where
  ex : ∃ f fd, FnOk P w K mg base CX0 j f fd ps sp ∧ Meth K C m f ∧ Binds K fd ps []
structure Kf (j : Nat) (x : Str) (C : Addr) (ps : List Str) (sp : Sp) : Prop where
  ex : ∃ f fd, FnOk P w K mg base CX0 j f fd ps sp ∧ Mk K C f ∧ mg x = some (.ref C) ∧ Binds K fd ps []
end
section
variable {X : Cx} {j k : Nat} {x m : Str} {C : Addr} {ps : List Str} {sp : Sp} {p pos apos : Pos} {e o : Expr} {es : List Expr} {t : TA} {to : TE}
theorem pc (g : Gf X.prog X.w X.K X.mg X.base j x ps sp) (hr : Room k X.A) (ha : PA X (e :: es) t) (hg : Gl X x := by rfl) (hj : j ≤ k := by decide) (hdb : (x == ("__debug__" : Str)) = false := by decide)
    (he : starEach (e :: es) X.env = (false, eval e X.env) :: starEach es X.env := by rfl) (hpl : (backTo pos (starEach es X.env)).any (·.1) = false := by rfl) :
    PE X (.Call (.Name x p) (e :: es) [] pos) (tCall sp [] E0 t) := by
  obtain ⟨f, fd, F, hm, hk, hb⟩ := g.ex
  exact pe_call F (hr.mono hj) hg hm hk hb .nil pass0 ha hdb he hpl
theorem pc0 (g : Gf X.prog X.w X.K X.mg X.base j x ps sp) (hr : Room k X.A) (hg : Gl X x := by rfl) (hj : j ≤ k := by decide) (hdb : (x == ("__debug__" : Str)) = false := by decide) :
    PE X (.Call (.Name x p) [] [] pos) (tCall sp [] E0 tNil) := by
  obtain ⟨f, fd, F, hm, hk, hb⟩ := g.ex
  exact pe_call0 F (hr.mono hj) hg hm hk hb .nil pass0 hdb
theorem pm {pl : Sem Bool} (ho : PE X o to) (c : Cls X.K C) (g : Mf X.prog X.w X.K X.mg X.base j C m ps sp) (hr : Room k X.A) (ha : PA X (e :: es) t) (hj : j ≤ k := by decide)
    (hst : starEach (e :: es) X.env = (false, eval e X.env) :: starEach es X.env := by rfl) (hpl : (backTo pos (starEach es X.env)).any (·.1) = false := by rfl)
    (ht : eval (.Call (.Attribute o m apos) (e :: es) [] pos) X.env = (do
      let ov ← eval o X.env
      standAt apos.atName
      let (f, first) ← holding [ov] (getMethod ov m pl)
      callWith pos f first (backTo pos (starEach (e :: es) X.env)) (backToKw pos (keywordEach [] X.env))) := by rfl) :
    PE X (.Call (.Attribute o m apos) (e :: es) [] pos) (tMeth C m sp [] E0 to t) := by
  obtain ⟨f, fd, F, hm, hb⟩ := g.ex
  exact pe_meth ho c hm F (hr.mono hj) hb .nil pass0 ha hst hpl ht
theorem pm0 {pl : Sem Bool} (ho : PE X o to) (c : Cls X.K C) (g : Mf X.prog X.w X.K X.mg X.base j C m ps sp) (hr : Room k X.A) (hj : j ≤ k := by decide)
    (ht : eval (.Call (.Attribute o m apos) [] [] pos) X.env = (do
      let ov ← eval o X.env
      standAt apos.atName
      let (f, first) ← holding [ov] (getMethod ov m pl)
      callWith pos f first (backTo pos (starEach [] X.env)) (backToKw pos (keywordEach [] X.env))) := by rfl) :
    PE X (.Call (.Attribute o m apos) [] [] pos) (tMeth C m sp [] E0 to tNil) := by
  obtain ⟨f, fd, F, hm, hb⟩ := g.ex
  exact pe_meth0 ho c hm F (hr.mono hj) hb .nil pass0 ht
theorem pk (g : Kf X.prog X.w X.K X.mg X.base j x C ps sp) (hr : Room k X.A) (ha : PA X (e :: es) t) (hg : Gl X x := by rfl) (hj : j + 1 ≤ k := by decide) (hdb : (x == ("__debug__" : Str)) = false := by decide)
    (he : starEach (e :: es) X.env = (false, eval e X.env) :: starEach es X.env := by rfl) (hpl : (backTo pos (starEach es X.env)).any (·.1) = false := by rfl) :
    PE X (.Call (.Name x p) (e :: es) [] pos) (tMake C sp [] E0 t) := by
  obtain ⟨f, fd, F, M, hm, hb⟩ := g.ex
  exact pe_make M F (hr.mono hj) hg hm hb .nil pass0 ha hdb he hpl
end

/-! ### the dice -/
/-- the dice at a, beside what else is owned -/
def Dice (K : PySem.W.Frag) (H : Hp) (a : Addr) (R : Lg) : Prop := ∃ (c : Addr) (ns : List Int) (i m r : Int), 0 ≤ i ∧ ns.length ≤ 1000 ∧ FzL K H c (ns.map V.int) ∧ Has H ((a, .lst [.ref c, .int i, .int m, .int r]) :: R)
section
variable {K : PySem.W.Frag} {H H' : Hp} {a p : Addr} {R R' : Lg} {o o' : HO}
theorem Dice.has (d : Dice K H a R) : Has H R := let ⟨_, _, _, _, _, _, _, _, h⟩ := d; h.tail
theorem Dice.new (d : Dice K H a R) (f : H p = none) (n : ¬ Imm o) : Dice K (upd H p o) a ((p, o) :: R) :=
  let ⟨c, ns, i, m, r, h1, h2, h3, h⟩ := d
  ⟨c, ns, i, m, r, h1, h2, h3.mono (Mono.new f), (h.new f n).swap2⟩
theorem Dice.old (d : Dice K H a R) (f : H p = none) : Dice K (upd H p o) a R :=
  let ⟨c, ns, i, m, r, h1, h2, h3, h⟩ := d
  ⟨c, ns, i, m, r, h1, h2, h3.mono (Mono.new f), h.old f⟩
theorem Dice.put (d : Dice K H a ((p, o) :: R)) (n : ¬ Imm o') : Dice K (upd H p o') a ((p, o') :: R) :=
  let ⟨c, ns, i, m, r, h1, h2, h3, h⟩ := d
  ⟨c, ns, i, m, r, h1, h2, h3.mono h.swap2.mono_put, (h.swap2.put n).swap2⟩
theorem Dice.at_ (d : Dice K H a ((p, o) :: R)) : H p = some o := d.has.head
theorem Dice.mput (d : Dice K H a ((p, o) :: R)) : Mono H (upd H p o') := d.has.mono_put
theorem Dice.perm (d : Dice K H a R) (e : R.Perm R') : Dice K H a R' :=
  let ⟨c, ns, i, m, r, h1, h2, h3, h⟩ := d
  ⟨c, ns, i, m, r, h1, h2, h3, h.perm (e.cons _)⟩
theorem Dice.sub (d : Dice K H a R) (e : R'.Sublist R) : Dice K H a R' :=
  let ⟨c, ns, i, m, r, h1, h2, h3, h⟩ := d
  ⟨c, ns, i, m, r, h1, h2, h3, h.sub (e.cons_cons _)⟩
theorem Dice.tail (d : Dice K H a ((p, o) :: R)) : Dice K H a R := d.sub (List.sublist_cons_self _ _)
/-- an owned list is let go, and stays from now on -/
theorem Dice.fz {xs : List V} {ob : Obj} (d : Dice K H a ((p, .lst xs) :: R)) : Dice K (upd H p (.frz ob (.lst xs))) a R :=
  let ⟨c, ns, i, m, r, h1, h2, h3, h⟩ := d
  ⟨c, ns, i, m, r, h1, h2, h3.mono h.swap2.mono_put, h.swap2.tail.off (List.nodup_cons.mp h.swap2.nd).1⟩
theorem Dice.mfz {xs : List V} {ob : Obj} (d : Dice K H a ((p, .lst xs) :: R)) : Mono H (upd H p (.frz ob (.lst xs))) := d.mput
/-- what others do with what is owned beside -/
theorem Dice.go (d : Dice K H a R) (h : ∀ S, Has H (R ++ S) → Mono H H' ∧ Has H' (R' ++ S)) : Dice K H' a R' := by
  obtain ⟨c, ns, i, m, r, h1, h2, h3, hh⟩ := d
  have q : Has H (R ++ [(a, .lst [.ref c, .int i, .int m, .int r])]) := hh.perm (List.perm_append_singleton _ _).symm
  obtain ⟨m1, q1⟩ := h _ q
  exact ⟨c, ns, i, m, r, h1, h2, h3.mono m1, q1.perm (List.perm_append_singleton _ _)⟩
end
end Cu

/-! Part 1: a def as it stands behind the top -/
namespace Cu
open PySem PySem.Spec PyProof.Rows L2
def top (i : Nat) : Stmt := PySem.Challenge.pw_catchup_k03_hearers.main.body.getD i (.Pass ⟨0, 0, 0, 0⟩)
/-- no built-in's name is the module's -/
structure Blt (mg : Str → Option Value) : Prop where
  len : mg "len" = none
  range : mg "range" = none
  int : mg "int" = none
  list : mg "list" = none
  tuple : mg "tuple" = none
  sorted : mg "sorted" = none
  min : mg "min" = none
  max : mg "max" = none
  sum : mg "sum" = none
  set : mg "set" = none
  str : mg "str" = none
  isinstance : mg "isinstance" = none
  enumerate : mg "enumerate" = none
  zip : mg "zip" = none
  bool : mg "bool" = none
  dict : mg "dict" = none
section
variable (K : PySem.W.Frag) (mg : Str → Option Value)
structure Fd (x : Str) (st : Stmt) : Prop where
  ex : ∃ f fd, Fun K x x st f fd ∧ mg x = some (.ref f)
structure Md (C : Addr) (m qual : Str) (st : Stmt) : Prop where
  ex : ∃ f fd, Fun K m qual st f fd ∧ Meth K C m f
structure Kd (x : Str) (C : Addr) (qual : Str) (st : Stmt) : Prop where
  ex : ∃ f fd, Fun K "__init__" qual st f fd ∧ Mk K C f ∧ mg x = some (.ref C)
end
section
variable {P : Program} {w : World} {K : PySem.W.Frag} {mg : Str → Option Value} {base : Heap} {x m qual : Str} {C : Addr} {st : Stmt} {N ps : List Str} {k : Nat} {sp : Sp}
/-- how the written arguments come to the parameters -/
abbrev Bnd (x qual : Str) (st : Stmt) (ps : List Str) : Prop := ∀ (kV doc pm : Value) (an : Option Addr) (cdv ct : Value) (us : List Value), us.length = ps.length → bindArgs (PySem.W.fnOf x qual (defArgs st) (defBody st) (defScope st) .none kV doc pm an cdv ct) ⟨us, []⟩ = pure (ps.zip us)
theorem Fd.ok (F : Fd K mg x st) (S : FnScope N ps (defScope st)) (b : Bnd x x st ps) (len : ∀ vs H Q E, sp vs H Q E → vs.length = ps.length)
    (hbody : ∀ (qual : Str) (f : Addr) (cdv : Value) (A : Around) (outer : List Env) (s : Shared) (H : Hp) (vs : List V) (Q : VK) (E : XK), Room k (A.deeper (envOfC qual (defScope st) s.heap.objs.size f cdv)) → sp vs H Q E →
      ∃ t, PSs (cxOf CX0 P w K mg base N qual (defScope st) f cdv A outer s H E).nox (defBody st) t ∧ t { nx := fun _ H' => Q .non H', rt := Q } (start N vs) H) : Gf P w K mg base (k + 1) x ps sp := by
  obtain ⟨f, fd, F, hm⟩ := F.ex
  exact ⟨f, fd, F.ok S len fun cdv A outer s H vs Q E hr h => hbody x f cdv A outer s H vs Q E hr h, hm, F.kp, F.binds b⟩
theorem Md.ok (F : Md K C m qual st) (S : FnScope N ps (defScope st)) (b : Bnd m qual st ps) (len : ∀ vs H Q E, sp vs H Q E → vs.length = ps.length)
    (hbody : ∀ (qual : Str) (f : Addr) (cdv : Value) (A : Around) (outer : List Env) (s : Shared) (H : Hp) (vs : List V) (Q : VK) (E : XK), Room k (A.deeper (envOfC qual (defScope st) s.heap.objs.size f cdv)) → sp vs H Q E →
      ∃ t, PSs (cxOf CX0 P w K mg base N qual (defScope st) f cdv A outer s H E).nox (defBody st) t ∧ t { nx := fun _ H' => Q .non H', rt := Q } (start N vs) H) : Mf P w K mg base (k + 1) C m ps sp := by
  obtain ⟨f, fd, F, hm⟩ := F.ex
  exact ⟨f, fd, F.ok S len fun cdv A outer s H vs Q E hr h => hbody qual f cdv A outer s H vs Q E hr h, hm, F.binds b⟩
theorem Kd.ok (F : Kd K mg x C qual st) (S : FnScope N ps (defScope st)) (b : Bnd "__init__" qual st ps) (len : ∀ vs H Q E, sp vs H Q E → vs.length = ps.length)
    (hbody : ∀ (qual : Str) (f : Addr) (cdv : Value) (A : Around) (outer : List Env) (s : Shared) (H : Hp) (vs : List V) (Q : VK) (E : XK), Room k (A.deeper (envOfC qual (defScope st) s.heap.objs.size f cdv)) → sp vs H Q E →
      ∃ t, PSs (cxOf CX0 P w K mg base N qual (defScope st) f cdv A outer s H E).nox (defBody st) t ∧ t { nx := fun _ H' => Q .non H', rt := Q } (start N vs) H) : Kf P w K mg base (k + 1) x C ps sp := by
  obtain ⟨f, fd, F, hm, hx⟩ := F.ex
  exact ⟨f, fd, F.ok S len fun cdv A outer s H vs Q E hr h => hbody qual f cdv A outer s H vs Q E hr h, hm, hx, F.binds b⟩
end
theorem len_of {n : Nat} {ps : List Str} {p : List V → Hp → VK → XK → Prop} (e : n = ps.length := by rfl) : ∀ vs H Q E, (vs.length = n ∧ p vs H Q E) → vs.length = ps.length := fun _ _ _ _ h => h.1.trans e
end Cu

namespace Cu
open PySem PySem.Spec PyProof.Rows L2
/-! sorted(d) of a dict with int keys, any number of them: the keys are taken out as HandS.More does it, and sorted by the order rule of HandS.SortOrd -/
theorem call_sortedDIw {X : Cx} (hcalm : X.calm = true) : CallR X (.builtin "sorted") (fun xs H Q => ∃ (a : Addr) (kvs : List (Key × V)) (ks : List Int), xs = [.ref a] ∧ Rd H a (.dK kvs) ∧ kvs.map (·.1) = ks.map Sum.inl ∧ ks.length ≤ sizeLine ∧
    ∀ (ys : List Int) (p : Addr), ys.Perm ks → ys.Pairwise (· ≤ ·) → H p = none → Q (.ref p) (upd H p (.lst (ys.map V.int)))) := by
  intro pins s σ H xs us Q I r ⟨a, kvs, ks, ex, hd, hks, h64, q⟩
  subst ex
  obtain ⟨u, eu, rx⟩ := vals1 r
  subst eu
  cases rx
  obtain ⟨z, lo, vs, rel, dd⟩ := dk_rd I.hok hd
  obtain ⟨ep, hat⟩ := dd.dictAt
  have hkeys : vs.map (·.1) = ks.map Sum.inl := rel.keys.symm.trans hks
  have hl : vs.length = ks.length := by
    have e := congrArg List.length hkeys
    rwa [List.length_map, List.length_map] at e
  refine Calls.call_function_entry PyProof.Rows.kind_sorted PyProof.Rows.plain_sorted PyProof.Rows.entry_sorted (PyProof.Rows.args_sorted1 _) ?_
  unfold Builtin.«sorted»
  refine wpAny_bind (m := checkCount "sorted" 1 1 _) (wpAny_pure ?_)
  refine wpAny_bind (PySem.W.kdu_collect (A := X.A.in1) (PySem.W.kdl_dict (knd := mixKind X.prog X.w) (kvs := vs) (ep := ep) lo) (I.ok.hd hcalm) hat (by rw [hl]; exact h64) fun h' tk acc hk hacc => ?_)
  have hal : acc.toList.length = ks.length := by rw [Array.length_toList, hacc.1, hl]
  have hS : IntsAre acc.toList ks := ints_each hal fun j v e => by
    obtain ⟨k, x, e1, e2⟩ := hacc.2 j v (by rw [← Array.getElem?_toList]; exact e)
    have e3 : (vs.map (·.1))[j]? = some k := by rw [List.getElem?_map, e1]; rfl
    rw [hkeys, List.getElem?_map] at e3
    cases e4 : ks[j]? with
    | none =>
      rw [e4] at e3
      cases e3
    | some y =>
      rw [e4] at e3
      have e5 : Sum.inl y = k := Option.some.inj e3
      subst e5
      rcases keyIs_shape (show keyIs (Sum.inl y) v = true from e2) with ⟨i, t, ek, ev⟩ | ⟨z, t, ek, ev⟩
      · cases ek
        exact ⟨y, t, rfl, ev⟩
      · cases ek
  have I1 : Inv X pins σ H { s with heap := h', toks := tk } := I.kept hk
  refine wpAny_bind (wpAny_newList ?_ (by rw [hal]; exact h64))
  have hoL : (h'.push (seqObj "list" acc.toList.toArray 0)).get? h'.objs.size = some (seqObj "list" acc.toList.toArray 0) := Heap.get?_push_size _ rfl
  show wpAny _ _ _ _ _ { s with heap := h'.push (seqObj "list" acc.toList.toArray 0), toks := tk }
  refine wpAny_bind (wpAny_holding (wpAny_call_entry PyProof.Rows.slot_list_sort ⟨_, hoL, rfl⟩ PyProof.Rows.entry_list_sort
    (SrtO.list_sort_ord (s := { s with heap := h'.push (seqObj "list" acc.toList.toArray 0), toks := tk }) SrtO.swo_int hoL (by rw [hal]; exact h64) (fun h2 => SrtO.ints_sortable hS h2) fun out h1 h2 => ⟨_, rfl, ?_⟩) (PyProof.Rows.args_list_sort _)))
  obtain ⟨k1, k2, k3⟩ := SrtO.ints_out hS h1 h2
  obtain ⟨e', he'⟩ := PyProof.Rows.sortedHeap_at (vs := acc.toList) (out := out.toArray) hoL
  have hlen : ((out.map SrtO.iv).map V.int).length ≤ sizeLine := by
    rw [List.length_map, k2.length_eq]
    exact h64
  refine wpAny_pure ⟨_, rfl, .ref h'.objs.size, upd H h'.objs.size (.lst ((out.map SrtO.iv).map V.int)), I1.laid (t' := tk) (fun b u e => ?_) (Nat.le_refl _)
    (show ObjOk X.prog X.w _ _ _ (.lst ((out.map SrtO.iv).map V.int)) from ⟨hlen, out, e', vals_of_ints k1, he'⟩), rfl, q _ _ k2 k3 (I1.hok.fresh (Nat.le_refl _))⟩
  have hb : b < h'.objs.size := Heap.lt_size e
  rw [PyProof.Rows.sortedHeap_old (Nat.ne_of_lt hb) (by rw [size_push']; exact Nat.lt_succ_of_lt hb)]
  exact Heap.get?_push_of_some _ e
end Cu

namespace Cu
open PySem PySem.Spec PyProof.Rows L2
/-- a statement of several ends: what stands behind all of them -/
@[irreducible] def tMid (t : TS) : TS := fun D σ H => ∃ N : L2.St → Hp → Prop, t { D with nx := N } σ H ∧ ∀ σ' H', N σ' H' → D.nx σ' H'
theorem rd_mid {t : TS} {D : Ends} {σ : L2.St} {H : Hp} (N : L2.St → Hp → Prop) (h : t { D with nx := N } σ H) (k : ∀ σ' H', N σ' H' → D.nx σ' H') : tMid t D σ H := by
  unfold tMid
  exact ⟨N, h, k⟩
theorem ps_mid {X : Cx} {st : Stmt} {t : TS} (h : PS X st t) : PS X st (tMid t) := ⟨fun pins s σ H D I hw => by
  unfold tMid at hw
  obtain ⟨N, h1, k⟩ := hw
  refine thn (h.run pins s σ H _ I h1) fun f s1 q => ?_
  cases f with
  | next =>
    obtain ⟨σ', H', I', q⟩ := q
    exact ⟨σ', H', I', k _ _ q⟩
  | brk => exact q
  | cont => exact q
  | ret u => exact q⟩
/-- e, and a list in it, if there is one, from now on never changed -/
@[irreducible] def tFzw (t : TE) : TE := fun σ H Q => t σ H fun v H1 => Q v H1 ∨ ∃ a xs, H1 a = some (.lst xs) ∧ ∀ o, Q v (upd H1 a (.frz o (.lst xs)))
theorem rd_fzw {t : TE} {σ : L2.St} {H : Hp} {Q : VK} (h : t σ H fun v H1 => Q v H1 ∨ ∃ a xs, H1 a = some (.lst xs) ∧ ∀ o, Q v (upd H1 a (.frz o (.lst xs)))) : tFzw t σ H Q := by
  unfold tFzw
  exact h
theorem pe_fzw {X : Cx} {e : Expr} {t : TE} (h : PE X e t) : PE X e (tFzw t) := ⟨fun pins s σ H Q I hw => by
  unfold tFzw at hw
  refine thn (h.run pins s σ H _ I hw) fun u s1 ⟨v, H1, I1, r, q⟩ => ?_
  rcases q with q | ⟨a, xs, ha, q⟩
  · exact ⟨_, _, I1, r, q⟩
  · obtain ⟨od, I2⟩ := I1.lock ha trivial
    exact ⟨_, _, I2, r, q od⟩⟩
end Cu

namespace Cu
open PySem PySem.Spec PyProof.Rows L2
/-! rules for a comprehension's element: the written part by its own name -/
section
variable {X : Cx} {tg e o l : Expr} {f : Str} {pos : Pos} {ta tl : TE}
theorem ix_listK (K : PySem.W.Frag) (h : X.K = K) : IxR X (rIxL K) := h ▸ ix_list
theorem ix_tupK (K : PySem.W.Frag) (h : X.K = K) : IxR X (rIxT K) := h ▸ ix_tup
theorem sl_listK (K : PySem.W.Frag) (h : X.K = K) : SlR X (rSlL K) := h ▸ sl_list
theorem op_eqDK (K : PySem.W.Frag) (h : X.K = K) (hu : X.A.units + 64 < cLine) : OpR X (compareOp .Eq) (rEqD K) := h ▸ op_eqD hu
theorem op_neDK (K : PySem.W.Frag) (h : X.K = K) (hu : X.A.units + 64 < cLine) : OpR X (compareOp .NotEq) (rNeD K) := h ▸ op_neD hu
theorem op_in_seqK (K : PySem.W.Frag) (h : X.K = K) : OpR X (compareOp .In) (rIn K false) := h ▸ op_in_seq
theorem op_notIn_seqK (K : PySem.W.Frag) (h : X.K = K) : OpR X (compareOp .NotIn) (rIn K true) := h ▸ op_notIn_seq
theorem call_len_seqK (K : PySem.W.Frag) (h : X.K = K) : CallR X (.builtin "len") (fun xs H Q => ∃ p ys, xs = [.ref p] ∧ (SqL K H p ys ∨ SqT K H p ys) ∧ Q (.int ys.length) H) := h ▸ call_len_seq
theorem call_list_ofK (K : PySem.W.Frag) (h : X.K = K) : CallR X (.type "list") (fun xs H Q => ∃ p ys, xs = [.ref p] ∧ (SqL K H p ys ∨ SqT K H p ys) ∧ ∀ l, H l = none → Q (.ref l) (upd H l (.lst ys))) := h ▸ call_list_of
theorem call_tuple_ofK (K : PySem.W.Frag) (h : X.K = K) : CallR X (.type "tuple") (fun xs H Q => ∃ p ys, xs = [.ref p] ∧ ((SqL K H p ys ∧ ∀ l, H l = none → Q (.ref l) (upd H l (.tup ys))) ∨ (SqT K H p ys ∧ Q (.ref p) H))) := h ▸ call_tuple_of
theorem cr_sumK (K : PySem.W.Frag) (h : X.K = K) (hc : X.calm = true) : CallR X (.builtin "sum") (rSum K) := h ▸ cr_sum hc
theorem cr_minK' (K : PySem.W.Frag) (h : X.K = K) (hc : X.calm = true) : CallR X (.builtin "min") (rMin K) := h ▸ cr_min hc
theorem cr_maxK' (K : PySem.W.Frag) (h : X.K = K) (hc : X.calm = true) : CallR X (.builtin "max") (rMax K) := h ▸ cr_max hc
theorem cr_sortedIK (K : PySem.W.Frag) (h : X.K = K) : CallR X (.builtin "sorted") (rSortedI K) := h ▸ cr_sortedI
theorem pi_listK (K : PySem.W.Frag) (h : X.K = K) (hl : PE X l tl) : PI X tg l (iList K tl) := h ▸ pi_list hl
theorem pe_fldK (K : PySem.W.Frag) (h : X.K = K) (he : PE X e ta) (hb : attributeBase e f X.env (eval e X.env) = eval e X.env) : PE X (.Attribute e f pos) (tFld K ta f) := h ▸ pe_fld he hb
end
end Cu

namespace Cu
open PySem PySem.Spec PyProof.Rows L2
abbrev s_dice : Stmt := (top 8)
theorem sc_dice : FnScope ["_law_script", "_law_mixed", "_law_cell"] ["_law_script"] (defScope s_dice) := ⟨rfl, rfl, rfl, by decide +kernel, rfl, by decide +kernel, by decide +kernel⟩

abbrev s_next : Stmt := (top 9)
theorem sc_next : FnScope ["_law_dice_here", "_law_many", "_law_found", "_law_cell"] ["_law_dice_here", "_law_many"] (defScope s_next) := ⟨rfl, rfl, rfl, by decide +kernel, rfl, by decide +kernel, by decide +kernel⟩

def spDice (K : PySem.W.Frag) : Sp := fun vs H Q _ => vs.length = 1 ∧ ∃ (c : Addr) (ns : List Int) (R : Lg), vs = [.ref c] ∧ ns.length ≤ 1000 ∧ FzL K H c (ns.map V.int) ∧ Has H R ∧
  ∀ (a : Addr) (H' : Hp), Mono H H' → Dice K H' a R → Q (.ref a) H'
def spNext (K : PySem.W.Frag) : Sp := fun vs H Q _ => vs.length = 2 ∧ ∃ (a : Addr) (m : Int) (R : Lg), vs = [.ref a, .int m] ∧ 0 < m ∧ m ≤ 1000000000000000000 ∧ Dice K H a R ∧
  ∀ (r : Int) (H' : Hp), 0 ≤ r → r < m → Mono H H' → Dice K H' a R → Q (.int r) H'
section
variable {P : Program} {w : World} {K : PySem.W.Frag} {mg : Str → Option Value} {base : Heap}
theorem ok_dice (F : Fd K mg "_law_dice" s_dice) (Bm : Blt mg) : Gf P w K mg base 1 "_law_dice" ["_law_script"] (spDice K) := by
  refine F.ok sc_dice (fun _ _ _ _ _ _ us hl => match us, hl with | [_], _ => rfl) len_of fun qual f cdv A outer s H vs Q E hr h => ?_
  obtain ⟨_, c, ns, R, rfl, hn, hf, hR, k⟩ := h
  refine ⟨_, (pss_cons (ps_set (i := 1) sc_dice.nd rfl (Or.inl rfl) pe_int)
      (pss_cons (ps_for PassesOwn.never rfl (pi_list (pv 0)) (pg_name (i := 2) sc_dice.nd rfl (Or.inl rfl))
        (pss_one (ps_set (i := 1) sc_dice.nd rfl (Or.inl rfl) (pe_op op_mod (pe_op op_add (pe_op op_add (pe_op op_mul (pv 1) pe_int) (pe_op op_mul (pe_op op_mod (pv 2) pe_int) pe_int)) pe_int) pe_int))))
      (pss_one (ps_ret (pe_lst (pa_cons (pv 0) (pa_cons pe_int (pa_cons (pe_op op_mul (pv 1) (pe_callTy call_int1 rfl Bm.int (by decide +kernel) (pa_cons (pe_cmpR op_gt (pe_callB call_len_seq rfl Bm.len (by decide +kernel) (pa_cons (pv 0) pa_nil)) pe_int (nomark _)) pa_nil))) (pa_cons pe_int pa_nil))))))))), ?_⟩
  refine ⟨_, rfl, c, rfl, ⟨_, hf.sq⟩, for_list (K := K) (a := c) (xs := ns.map V.int) (fun i σ H2 => ∃ (z : Int) (v : Option V), σ = [some (.ref c), some (.int z), v] ∧ H2 = H) ⟨0, none, rfl, rfl⟩ (fun i σ H2 _ ⟨_, _, _, e⟩ => by rw [e]; exact hf.sq) ?_ ?_⟩
  · rintro i x σ H2 hi ⟨z, v, rfl, rfl⟩
    obtain ⟨y, rfl⟩ : ∃ y, x = V.int y := by
      rw [List.getElem?_map] at hi
      cases e : ns[i]? with
      | none =>
        rw [e] at hi
        cases hi
      | some y =>
        rw [e] at hi
        exact ⟨y, (Option.some.inj hi).symm⟩
    refine ⟨_, rfl, _, _, rfl, rfl, .inr ⟨by decide, by decide⟩, _, rfl, _, _, rfl, rfl, (by show (0 : Int) < 2147483647; decide), _, _, rfl, rfl, .inr ⟨by decide, by decide⟩, _, _, rfl, rfl, _, _, rfl, rfl, _, _, rfl, rfl, (by show (0 : Int) < 2147483647; decide), ?_⟩
    exact ⟨_, _, rfl, rfl⟩
  · rintro σ H2 ⟨z, v, rfl, rfl⟩
    refine ⟨_, rfl, _, rfl, _, rfl, c, _, rfl, .inl hf.sq, _, _, rfl, rfl, .inr ⟨_, rfl, _, _, rfl, rfl, .inr (by split <;> exact ⟨by decide, by decide⟩), ?_⟩⟩
    refine ⟨(by show 4 ≤ sizeLine; decide), fun l hl => ?_⟩
    exact k l _ (Mono.new hl) ⟨c, ns, _, _, _, Int.le_refl 0, hn, hf.mono (Mono.new hl), hR.new hl nl⟩
theorem ok_next (F : Fd K mg "_law_next" s_next) (Bm : Blt mg) : Gf P w K mg base 1 "_law_next" ["_law_dice_here", "_law_many"] (spNext K) := by
  refine F.ok sc_next (fun _ _ _ _ _ _ us hl => match us, hl with | [_, _], _ => rfl) len_of fun qual f cdv A outer s H vs Q E hr h => ?_
  obtain ⟨_, a, m, R, rfl, hm, hm2, ⟨c, ns, i, mx, r, hi, hn, hf, hh⟩, k⟩ := h
  have hdiv : CDivW 0 m := wide_div hm (wide_le (j := 1000000000000000000) (a := 60) (by omega) (by omega) (by decide)) (by decide) (by decide)
  refine ⟨_, (pss_cons (ps_if (pt_cmpR op_gt (pe_ix ix_list (pv 0) pe_int (fun _ _ => rfl)) pe_int (nomark _))
        (pss_cons (ps_set (i := 2) sc_next.nd rfl (Or.inl rfl) (pe_op op_mod (pe_ix ix_list (pv 0) pe_int (fun _ _ => rfl)) (pv 1)))
        (pss_cons (ps_asg (pe_op op_fdivW (pe_ix ix_list (pv 0) pe_int (fun _ _ => rfl)) (pv 1)) (pg_sub (pv 0) pe_int set_list))
        (pss_one (ps_ret (pv 2)))))
        pss_nil)
      (pss_cons (ps_asg (pe_op op_add (pe_ix ix_list (pv 0) pe_int (fun _ _ => rfl)) pe_int) (pg_sub (pv 0) pe_int set_list))
      (pss_cons (ps_if (pt_cmpR op_le (pe_ix ix_list (pv 0) pe_int (fun _ _ => rfl)) (pe_callB call_len_seq rfl Bm.len (by decide +kernel) (pa_cons (pe_ix ix_list (pv 0) pe_int (fun _ _ => rfl)) pa_nil)) (nomark _))
        (pss_cons (ps_set (i := 3) sc_next.nd rfl (Or.inl rfl) (pe_ix ix_list (pe_ix ix_list (pv 0) pe_int (fun _ _ => rfl)) (pe_op op_sub (pe_ix ix_list (pv 0) pe_int (fun _ _ => rfl)) pe_int) (fun _ _ => rfl)))
        (pss_cons (ps_asg (pe_ifExp (pt_cmpR op_ge (pv 3) (pe_op op_pow pe_int pe_int) (nomark _)) (pe_op op_fdivW (pv 3) (pv 1)) pe_int) (pg_sub (pv 0) pe_int set_list))
        (pss_one (ps_ret (pe_op op_mod (pv 3) (pv 1))))))
        pss_nil)
      (pss_cons (ps_asg (pe_op op_mod (pe_op op_mul (pe_ix ix_list (pv 0) pe_int (fun _ _ => rfl)) pe_int) pe_int) (pg_sub (pv 0) pe_int set_list))
      (pss_one (ps_ret (pe_op op_mod (pe_op op_fdivW (pe_ix ix_list (pv 0) pe_int (fun _ _ => rfl)) pe_int) (pv 1)))))))), ?_⟩
  have h0 := hh.head
  refine ⟨_, rfl, _, _, _, _, rfl, rfl, SqL.of h0, rfl, _, _, rfl, rfl, _, rfl, ite2 (fun hr0 => ?_) fun hr0 => ?_⟩
  · refine ⟨_, rfl, _, _, _, _, rfl, rfl, SqL.of h0, rfl, _, rfl, _, _, rfl, rfl, hm, ?_⟩
    refine ⟨_, rfl, _, _, _, _, rfl, rfl, SqL.of h0, rfl, _, rfl, _, _, rfl, rfl, hdiv, _, rfl, _, _, _, _, rfl, rfl, h0, rfl, _, rfl, ?_⟩
    exact k _ _ (Int.emod_nonneg _ (by omega)) (Int.emod_lt_of_pos _ hm) hh.mono_put ⟨c, ns, i, mx, r / m, hi, hn, hf.mono hh.mono_put, hh.put nl⟩
  · refine ⟨_, rfl, _, _, _, _, rfl, rfl, SqL.of h0, rfl, _, _, rfl, rfl, _, rfl, _, _, _, _, rfl, rfl, h0, rfl, ?_⟩
    have h1 : Has (upd H a (.lst [.ref c, .int (i + 1), .int mx, .int r])) ((a, .lst [.ref c, .int (i + 1), .int mx, .int r]) :: R) := hh.put nl
    have m1 : Mono H (upd H a (.lst [.ref c, .int (i + 1), .int mx, .int r])) := hh.mono_put
    have f1 := hf.mono m1
    have e1 := h1.head
    refine ⟨_, rfl, _, _, _, _, rfl, rfl, SqL.of e1, rfl, _, rfl, _, _, _, _, rfl, rfl, SqL.of e1, rfl, c, _, rfl, .inl f1.sq, _, _, rfl, rfl, _, rfl, ite2 (fun hle => ?_) fun hle => ?_⟩
    · have hle' : i + 1 ≤ (ns.length : Int) := by
        have := of_decide_eq_true hle
        rw [List.length_map] at this
        exact this
      have hj : i.toNat < ns.length := by omega
      have hat : atI (ns.map V.int) (i + 1 - 1) = some (V.int ns[i.toNat]) := at_of (j := i.toNat) (by omega) (by rw [List.getElem?_map, List.getElem?_eq_getElem hj]; rfl)
      refine ⟨_, rfl, _, _, _, _, rfl, rfl, SqL.of e1, rfl, _, rfl, _, _, _, _, rfl, rfl, SqL.of e1, rfl, _, _, rfl, rfl, c, _, _, _, rfl, rfl, f1.sq, hat, ?_⟩
      refine ⟨_, rfl, _, _, rfl, rfl, ⟨by decide, by decide, by decide⟩, _, _, rfl, rfl, _, rfl, ite2 (fun hb => ?_) fun hb => ?_⟩
      · refine ⟨_, rfl, _, rfl, _, _, rfl, rfl, hdiv, _, rfl, _, _, _, _, rfl, rfl, e1, rfl, _, rfl, _, rfl, _, _, rfl, rfl, hm, ?_⟩
        exact k _ _ (Int.emod_nonneg _ (by omega)) (Int.emod_lt_of_pos _ hm) (m1.trans h1.mono_put) ⟨c, ns, i + 1, mx, ns[i.toNat] / m, by omega, hn, f1.mono h1.mono_put, h1.put nl⟩
      · refine ⟨_, rfl, _, _, _, _, rfl, rfl, e1, rfl, _, rfl, _, rfl, _, _, rfl, rfl, hm, ?_⟩
        exact k _ _ (Int.emod_nonneg _ (by omega)) (Int.emod_lt_of_pos _ hm) (m1.trans h1.mono_put) ⟨c, ns, i + 1, mx, 0, by omega, hn, f1.mono h1.mono_put, h1.put nl⟩
    · refine ⟨_, rfl, _, _, _, _, rfl, rfl, SqL.of e1, rfl, _, _, rfl, rfl, .inr ⟨by decide, by decide⟩, _, _, rfl, rfl, (by show (0 : Int) < 2147483647; decide), _, rfl, _, _, _, _, rfl, rfl, e1, rfl, ?_⟩
      have h2 := h1.put (o' := .lst [.ref c, .int (i + 1), .int (mx * 48271 % 2147483647), .int r]) nl
      have e2 := h2.head
      refine ⟨_, rfl, _, _, _, _, rfl, rfl, SqL.of e2, rfl, _, _, rfl, rfl, ⟨by decide, by decide⟩, _, rfl, _, _, rfl, rfl, hm, ?_⟩
      exact k _ _ (Int.emod_nonneg _ (by omega)) (Int.emod_lt_of_pos _ hm) (m1.trans h1.mono_put) ⟨c, ns, i + 1, _, r, by omega, hn, f1.mono h1.mono_put, h2⟩
end
end Cu

namespace Cu
open PySem PySem.Spec PyProof.Rows L2
abbrev s_worth : Stmt := (top 11)
theorem sc_worth : FnScope ["_law_d"] ["_law_d"] (defScope s_worth) := ⟨rfl, rfl, rfl, by decide +kernel, rfl, by decide +kernel, by decide +kernel⟩

abbrev s_changes : Stmt := (top 13)
theorem sc_changes : FnScope ["_law_d", "_law_keys", "_law_most", "_law_often", "_law_few", "_law_found", "_law_k", "_law_word"] ["_law_d", "_law_keys", "_law_most"] (defScope s_changes) := ⟨rfl, rfl, rfl, by decide +kernel, rfl, by decide +kernel, by decide +kernel⟩

theorem at_some {xs : List V} {r : Int} (h0 : 0 ≤ r) (h1 : r < (xs.length : Int)) : ∃ v, atI xs r = some v ∧ v ∈ xs := by
  have hj : r.toNat < xs.length := by omega
  exact ⟨xs[r.toNat], at_of (j := r.toNat) (by omega) (List.getElem?_eq_getElem hj), List.getElem_mem hj⟩
/-- a change as it is drawn -/
structure Ch where
  key : Nat
  set : Bool
  worth : Int
def wd (b : Bool) : Str := if b then "set" else "add"
def Ch.enc (c : Ch) : PyData := .tuple [.int c.key, .str (wd c.set), .int c.worth]
def spWorth (K : PySem.W.Frag) : Sp := fun vs H Q _ => vs.length = 1 ∧ ∃ (a : Addr) (R : Lg), vs = [.ref a] ∧ Dice K H a R ∧ ∀ (z : Int) (H' : Hp), Mono H H' → Dice K H' a R → Q (.int z) H'
def spChanges (K : PySem.W.Frag) : Sp := fun vs H Q _ => vs.length = 3 ∧ ∃ (a : Addr) (nk mo : Nat) (R : Lg), vs = [.ref a, .int nk, .int mo] ∧ 0 < nk ∧ nk ≤ 8 ∧ mo ≤ 1000 ∧ Dice K H a R ∧
  ∀ (cs : List Ch) (v : V) (H' : Hp), cs.length ≤ mo → (∀ c ∈ cs, c.key < nk) → Mono H H' → Dice K H' a R → Rp K H' (.list (cs.map Ch.enc)) v → Q v H'
section
variable {P : Program} {w : World} {K : PySem.W.Frag} {mg : Str → Option Value} {base : Heap}
theorem ok_worth (F : Fd K mg "_law_worth" s_worth) (Bm : Blt mg) (g_next : Gf P w K mg base 1 "_law_next" ["_law_dice_here", "_law_many"] (spNext K)) : Gf P w K mg base 2 "_law_worth" ["_law_d"] (spWorth K) := by
  refine F.ok sc_worth (fun _ _ _ _ _ _ us hl => match us, hl with | [_], _ => rfl) len_of fun qual f cdv A outer s H vs Q E hr h => ?_
  obtain ⟨_, a, R, rfl, d, k⟩ := h
  refine ⟨_, (pss_one (ps_ret (pe_ix ix_list (pe_lst (pa_cons (pe_op op_sub (pc g_next hr (pa_cons (pv 0) (pa_cons pe_int pa_nil))) pe_int) (pa_cons (pe_op op_sub (pc g_next hr (pa_cons (pv 0) (pa_cons pe_int pa_nil))) pe_int) (pa_cons (pc g_next hr (pa_cons (pv 0) (pa_cons (pe_op op_pow pe_int pe_int) pa_nil))) pa_nil)))) (pc g_next hr (pa_cons (pv 0) (pa_cons pe_int pa_nil))) (fun _ _ => rfl)))), ?_⟩
  refine ⟨_, rfl, rfl, a, 5, R, rfl, by decide, by decide, d, fun r1 H1 _ _ m1 d1 => ⟨_, _, rfl, rfl, ?_⟩⟩
  refine ⟨_, rfl, rfl, a, 2000, R, rfl, by decide, by decide, d1, fun r2 H2 _ _ m2 d2 => ⟨_, _, rfl, rfl, ?_⟩⟩
  refine ⟨_, rfl, _, _, rfl, rfl, ⟨by decide, by decide, by decide⟩, rfl, a, 1000000000000000000, R, rfl, by decide, by decide, d2, fun r3 H3 _ _ m3 d3 => ⟨(by show 3 ≤ sizeLine; decide), fun p hp => ?_⟩⟩
  refine ⟨_, rfl, rfl, a, 3, _, rfl, by decide, by decide, d3.new (o := .lst [.int (r1 - 1), .int (r2 - 1000), .int r3]) hp nl, fun r4 H4 h0 h1 m4 d4 => ?_⟩
  obtain ⟨v, hv, hm⟩ := at_some (xs := [.int (r1 - 1), .int (r2 - 1000), .int r3]) h0 h1
  obtain ⟨z, rfl⟩ : ∃ z, v = V.int z := by
    simp only [List.mem_cons, List.not_mem_nil, or_false] at hm
    rcases hm with e | e | e <;> exact ⟨_, e⟩
  exact ⟨_, _, _, _, rfl, rfl, SqL.of d4.at_, hv, k z H4 ((((m1.trans m2).trans m3).trans (Mono.new hp)).trans m4) d4.tail⟩
theorem ok_changes (F : Fd K mg "_law_changes" s_changes) (Bm : Blt mg) (g_next : Gf P w K mg base 1 "_law_next" ["_law_dice_here", "_law_many"] (spNext K)) (g_worth : Gf P w K mg base 2 "_law_worth" ["_law_d"] (spWorth K)) :
    Gf P w K mg base 3 "_law_changes" ["_law_d", "_law_keys", "_law_most"] (spChanges K) := by
  refine F.ok sc_changes (fun _ _ _ _ _ _ us hl => match us, hl with | [_, _, _], _ => rfl) len_of fun qual f cdv A outer s H vs Q E hr h => ?_
  obtain ⟨_, a, nk, mo, R, rfl, hk, hk8, hmo, d, k⟩ := h
  refine ⟨_, (pss_cons (ps_set (i := 3) sc_changes.nd rfl (Or.inl rfl) (pe_op op_add pe_int (pc g_next hr (pa_cons (pv 0) (pa_cons pe_int pa_nil)))))
      (pss_cons (ps_set (i := 4) sc_changes.nd rfl (Or.inl rfl) (pe_op op_add pe_int (pc g_next hr (pa_cons (pv 0) (pa_cons (pv 1) pa_nil)))))
      (pss_cons (ps_set (i := 5) sc_changes.nd rfl (Or.inl rfl) (pe_lst pa_nil))
      (pss_cons (ps_for PassesOwn.never rfl (pi_range1 rfl Bm.range (pa_cons (pc g_next hr (pa_cons (pv 0) (pa_cons (pe_op op_add (pv 2) pe_int) pa_nil))) pa_nil)) (pg_name (i := 6) sc_changes.nd rfl (Or.inl rfl))
        (pss_cons (ps_set (i := 7) sc_changes.nd rfl (Or.inl rfl) (pe_ix ix_list (pe_lst (pa_cons pe_str (pa_cons pe_str pa_nil))) (pe_callTy call_int1 rfl Bm.int (by decide +kernel) (pa_cons (pe_cmpR op_eq (pc g_next hr (pa_cons (pv 0) (pa_cons (pv 3) pa_nil))) pe_int (nomark _)) pa_nil)) (fun _ _ => rfl)))
        (pss_one (ps_expr (pe_bm PySem.F.plainAttrs_list PySem.F.slot_list_append PySem.F.type_list_append mt_append (pv 5) (pa_cons (pe_tup (pa_cons (pc g_next hr (pa_cons (pv 0) (pa_cons (pe_ix ix_list (pe_lst (pa_cons (pv 4) (pa_cons (pv 4) (pa_cons (pv 1) pa_nil)))) (pc g_next hr (pa_cons (pv 0) (pa_cons pe_int pa_nil))) (fun _ _ => rfl)) pa_nil))) (pa_cons (pv 7) (pa_cons (pc g_worth hr (pa_cons (pv 0) pa_nil)) pa_nil)))) pa_nil))))))
      (pss_one (ps_ret (pe_fz (pv 5)))))))), ?_⟩
  refine ⟨_, rfl, rfl, a, 4, R, rfl, by decide, by decide, d, fun r1 H1 p1 q1 m1 d1 => ⟨_, _, rfl, rfl, ?_⟩⟩
  refine ⟨_, rfl, _, rfl, rfl, a, nk, R, rfl, by omega, by omega, d1, fun r2 H2 p2 q2 m2 d2 => ⟨_, _, rfl, rfl, ?_⟩⟩
  refine ⟨(by show 0 ≤ sizeLine; decide), fun p hp => ?_⟩
  have d3 := d2.new (o := .lst []) hp nl
  have m3 := (m1.trans m2).trans (Mono.new (o := .lst []) hp)
  refine ⟨_, rfl, _, rfl, _, _, rfl, rfl, rfl, a, mo + 1, _, rfl, by omega, by omega, d3, fun r4 H4 p4 q4 m4 d4 => ⟨_, rfl, by omega, by omega, ?_⟩⟩
  refine for_range (lo := 0) (n := r4.toNat) (fun i σ H5 => ∃ (cs : List Ch) (xs : List V) (v6 v7 : Option V), σ = [some (.ref a), some (.int nk), some (.int mo), some (.int (1 + r1)), some (.int (1 + r2)), some (.ref p), v6, v7] ∧
    Mono H H5 ∧ Dice K H5 a ((p, .lst xs) :: R) ∧ RpL K H5 (cs.map Ch.enc) xs ∧ cs.length = i ∧ ∀ c ∈ cs, c.key < nk)
    ⟨[], [], none, none, rfl, m3.trans m4, d4, .nil, rfl, fun _ h => (nomatch h)⟩ ?_ ?_
  · rintro i σ H5 hi ⟨cs, xs, v6, v7, rfl, m5, d5, rp, hl, hc⟩
    refine ⟨(by show 2 ≤ sizeLine; decide), fun l hl2 => ?_⟩
    have d6 := d5.new (o := .lst [.str "add", .str "set"]) hl2 nl
    refine ⟨_, rfl, _, rfl, rfl, a, _, _, rfl, by omega, by omega, d6, fun r6 H6 _ _ m6 d7 => ⟨rfl, .inr ⟨_, rfl, ?_⟩⟩⟩
    have d8 := d7.tail
    have m8 := (Mono.new (o := .lst [.str "add", .str "set"]) hl2).trans m6
    refine ⟨_, _, _, .str (wd (decide (V.int r6 = V.int 0))), rfl, rfl, SqL.of d7.at_, (by cases decide (V.int r6 = V.int 0) <;> rfl), ?_⟩
    refine ⟨_, rfl, .inl ⟨rfl, _, SqL.of d8.at_⟩, _, rfl, _, rfl, _, rfl, _, rfl, ⟨(by show 3 ≤ sizeLine; decide), fun l2 hl3 => ?_⟩⟩
    have d9 := d8.new (o := .lst [.int (1 + r2), .int (1 + r2), .int nk]) hl3 nl
    refine ⟨_, rfl, rfl, a, 3, _, rfl, by decide, by decide, d9, fun r9 H9 p9 q9 m9 d10 => ?_⟩
    obtain ⟨v, hv, hm⟩ := at_some (xs := [.int (1 + r2), .int (1 + r2), .int nk]) p9 q9
    obtain ⟨z, rfl, hz0, hzk⟩ : ∃ z, v = V.int z ∧ 0 < z ∧ z ≤ nk := by
      simp only [List.mem_cons, List.not_mem_nil, or_false] at hm
      rcases hm with e | e | e
      · exact ⟨_, e, by omega, by omega⟩
      · exact ⟨_, e, by omega, by omega⟩
      · exact ⟨_, e, by omega, by omega⟩
    refine ⟨_, _, _, _, rfl, rfl, SqL.of d10.at_, hv, rfl, a, z, _, rfl, hz0, by omega, d10.tail, fun r11 H11 p11 q11 m11 d11 => ?_⟩
    refine ⟨_, rfl, _, rfl, rfl, a, _, rfl, d11, fun z12 H12 m12 d12 => ⟨(by show 3 ≤ sizeLine; decide), fun t ht => ?_⟩⟩
    have ms := (((m8.trans (Mono.new (o := .lst [.int (1 + r2), .int (1 + r2), .int nk]) hl3)).trans m9).trans m11).trans m12
    have d13 := d12.old (o := .tup [.int r11, .str (wd (decide (V.int r6 = V.int 0))), .int z12]) ht
    have mt : Mono H12 (upd H12 t (.tup [.int r11, .str (wd (decide (V.int r6 = V.int 0))), .int z12])) := Mono.new ht
    have hxs : xs.length = i := by rw [rp.length, List.length_map, hl]
    refine ⟨_, _, _, rfl, rfl, d13.at_, (by rw [hxs]; exact small1000 (by omega)), ?_⟩
    refine ⟨cs ++ [⟨r11.toNat, decide (V.int r6 = V.int 0), z12⟩], _, _, _, rfl, ((m5.trans ms).trans mt).trans d13.mput, d13.put nl, ?_, by rw [List.length_append, hl]; rfl, fun c hcm => ?_⟩
    · rw [List.map_append]
      refine ((rp.mono ((ms.trans mt).trans d13.mput)).append (.cons ?_ .nil))
      have e : ((r11.toNat : Nat) : Int) = r11 := by omega
      refine Rp.tup (d13.mput _ _ upd_same trivial) ?_
      show RpL K _ [.int ((r11.toNat : Nat) : Int), _, _] _
      rw [e]
      exact .cons .int (.cons .str (.cons .int .nil))
    · rcases List.mem_append.mp hcm with h | h
      · exact hc c h
      · rw [List.mem_singleton.mp h]
        show r11.toNat < nk
        omega
  · rintro σ H5 ⟨cs, xs, v6, v7, rfl, m5, d5, rp, hl, hc⟩
    refine rd_fz ⟨_, rfl, p, xs, rfl, d5.at_, fun o => ?_⟩
    exact k cs _ _ (by omega) hc (m5.trans d5.mfz) d5.fz (.lst FzL.frz (rp.mono d5.mfz))
end
end Cu

namespace Cu
open PySem PySem.Spec PyProof.Rows L2
/-! a story: worths and lasts behind changes, rows, letters -/
def wst (k : Nat) (w : Int) (c : Ch) : Int := if c.key = k then (if c.set then 0 else w) + c.worth else w
def wofR : List Ch → Nat → Int
  | [], _ => 0
  | c :: r, k => wst k (wofR r k) c
def lofR : List Ch → Nat → Nat
  | [], _ => 0
  | c :: r, k => if c.key = k then r.length + 1 else lofR r k
def wof (cs : List Ch) (k : Nat) : Int := wofR cs.reverse k
def lof (cs : List Ch) (k : Nat) : Nat := lofR cs.reverse k
theorem wof_nil (k : Nat) : wof [] k = 0 := rfl
theorem lof_nil (k : Nat) : lof [] k = 0 := rfl
theorem wof_snoc (cs : List Ch) (c : Ch) (k : Nat) : wof (cs ++ [c]) k = wst k (wof cs k) c := by
  unfold wof
  rw [List.reverse_append]
  rfl
theorem lof_snoc (cs : List Ch) (c : Ch) (k : Nat) : lof (cs ++ [c]) k = if c.key = k then cs.length + 1 else lof cs k := by
  unfold lof
  rw [List.reverse_append]
  show (if c.key = k then cs.reverse.length + 1 else lofR cs.reverse k) = _
  rw [List.length_reverse]
def wrow (nk : Nat) (cs : List Ch) : List Int := (List.range nk).map (wof cs)
def lrow (nk : Nat) (cs : List Ch) : List Int := (List.range nk).map fun k => (lof cs k : Int)
def ilst (ns : List Int) : PyData := .list (ns.map PyData.int)
def rowD (nk : Nat) (cs : List Ch) : PyData := .tuple [ilst (wrow nk cs), ilst (lrow nk cs)]
inductive Letter where
  | change (n : Nat) (c : Ch) (ahead : Nat)
  | part (n b : Nat) (rows : List (Int × Nat))
  | beat (n : Nat) (lasts : List Nat)
def Letter.enc : Letter → PyData
  | .change n c ahead => .tuple [.str "change", .int n, .int c.key, .str (wd c.set), .int c.worth, .int ahead]
  | .part n b rows => .tuple [.str "part", .int n, .int b, .tuple (rows.map fun r => .tuple [.int r.1, .int r.2])]
  | .beat n lasts => .tuple [.str "beat", .int n, .tuple (lasts.map fun k : Nat => .int k)]
def letsR : List Ch → List Letter
  | [] => []
  | c :: r => letsR r ++ [.change (r.length + 1) c (lofR r c.key)]
def rowsR (nk : Nat) : List Ch → List PyData
  | [] => [rowD nk []]
  | c :: r => rowsR nk r ++ [rowD nk (c :: r).reverse]
def lets (cs : List Ch) : List Letter := letsR cs.reverse
def rowsD (nk : Nat) (cs : List Ch) : List PyData := rowsR nk cs.reverse
theorem lets_nil : lets [] = [] := rfl
theorem lets_snoc (cs : List Ch) (c : Ch) : lets (cs ++ [c]) = lets cs ++ [.change (cs.length + 1) c (lof cs c.key)] := by
  unfold lets lof
  rw [List.reverse_append]
  show letsR cs.reverse ++ [Letter.change (cs.reverse.length + 1) c (lofR cs.reverse c.key)] = _
  rw [List.length_reverse]
theorem rowsD_nil (nk : Nat) : rowsD nk [] = [rowD nk []] := rfl
theorem rowsD_snoc (nk : Nat) (cs : List Ch) (c : Ch) : rowsD nk (cs ++ [c]) = rowsD nk cs ++ [rowD nk (cs ++ [c])] := by
  unfold rowsD
  rw [List.reverse_append]
  show rowsR nk cs.reverse ++ [rowD nk (c :: cs.reverse).reverse] = _
  rw [List.reverse_cons, List.reverse_reverse]
theorem snoc_ind {α : Type} {p : List α → Prop} (h0 : p []) (h1 : ∀ xs x, p xs → p (xs ++ [x])) (xs : List α) : p xs := by
  have q : ∀ ys : List α, p ys.reverse := fun ys => by
    induction ys with
    | nil => exact h0
    | cons y ys ih =>
      rw [List.reverse_cons]
      exact h1 _ _ ih
  have := q xs.reverse
  rwa [List.reverse_reverse] at this
theorem rowsD_last (nk : Nat) (cs : List Ch) : ∃ init, rowsD nk cs = init ++ [rowD nk cs] := by
  induction cs using snoc_ind with
  | h0 => exact ⟨[], rfl⟩
  | h1 cs c _ => exact ⟨_, rowsD_snoc nk cs c⟩
theorem rowsD_length (nk : Nat) (cs : List Ch) : (rowsD nk cs).length = cs.length + 1 := by
  induction cs using snoc_ind with
  | h0 => rfl
  | h1 cs c ih => rw [rowsD_snoc, List.length_append, ih, List.length_append]; rfl
theorem lets_length (cs : List Ch) : (lets cs).length = cs.length := by
  induction cs using snoc_ind with
  | h0 => rfl
  | h1 cs c ih => rw [lets_snoc, List.length_append, ih, List.length_append]; rfl
theorem rowsD_get {nk : Nat} : ∀ {cs : List Ch} {n : Nat}, n ≤ cs.length → (rowsD nk cs)[n]? = some (rowD nk (cs.take n)) := by
  intro cs
  induction cs using snoc_ind with
  | h0 =>
    intro n h
    have : n = 0 := by simpa using h
    subst this
    rfl
  | h1 cs c ih =>
    intro n h
    rw [rowsD_snoc]
    rw [List.length_append, List.length_singleton] at h
    by_cases e : n ≤ cs.length
    · rw [List.getElem?_append_left (by rw [rowsD_length]; omega), ih e, List.take_append_of_le_length e]
    · have e1 : n = cs.length + 1 := by omega
      subst e1
      rw [List.getElem?_append_right (by rw [rowsD_length]; exact Nat.le_refl _), rowsD_length, Nat.sub_self, List.take_of_length_le (by simp)]
      rfl
theorem lets_get : ∀ {cs : List Ch} {n : Nat} {c : Ch}, cs[n]? = some c → (lets cs)[n]? = some (.change (n + 1) c (lof (cs.take n) c.key)) := by
  intro cs
  induction cs using snoc_ind with
  | h0 =>
    intro n c h
    simp at h
  | h1 cs d ih =>
    intro n c h
    rw [lets_snoc]
    have hn : n < cs.length + 1 := by
      have := (List.getElem?_eq_some_iff.mp h).1
      simpa using this
    by_cases e : n < cs.length
    · rw [List.getElem?_append_left (by rw [lets_length]; exact e), List.take_append_of_le_length (Nat.le_of_lt e)]
      rw [List.getElem?_append_left e] at h
      exact ih h
    · have e1 : n = cs.length := by omega
      subst e1
      rw [List.getElem?_append_right (Nat.le_refl _), Nat.sub_self] at h
      have e2 : d = c := by simpa using h
      subst e2
      rw [List.getElem?_append_right (by rw [lets_length]; exact Nat.le_refl _), lets_length, Nat.sub_self, List.take_append_of_le_length (Nat.le_refl _), List.take_of_length_le (Nat.le_refl _)]
      rfl
theorem set_cut {α : Type} (xs : List α) (k : Nat) (v : α) (h : k < xs.length) : xs.take k ++ [v] ++ xs.drop (k + 1) = xs.set k v := by
  rw [List.set_eq_take_append_cons_drop, if_pos h, List.append_assoc]
  rfl
theorem wrow_snoc (nk : Nat) (cs : List Ch) (c : Ch) : wrow nk (cs ++ [c]) = (wrow nk cs).set c.key (wst c.key (wof cs c.key) c) := by
  apply List.ext_getElem?
  intro i
  unfold wrow
  rw [List.getElem?_map]
  by_cases hi : i < nk
  · rw [List.getElem?_range hi]
    by_cases e : c.key = i
    · rw [e, List.getElem?_set_self (by simpa using hi)]
      simp [wof_snoc]
    · rw [List.getElem?_set_ne e, List.getElem?_map, List.getElem?_range hi]
      simp [wof_snoc, wst, e]
  · have h1 : (List.range nk)[i]? = none := by simp; omega
    have h2 : ((List.range nk).map (wof cs)).length ≤ i := by simp; omega
    rw [h1, List.getElem?_eq_none (by rw [List.length_set]; exact h2)]
    rfl
theorem lrow_snoc (nk : Nat) (cs : List Ch) (c : Ch) : lrow nk (cs ++ [c]) = (lrow nk cs).set c.key ((cs.length + 1 : Nat) : Int) := by
  apply List.ext_getElem?
  intro i
  unfold lrow
  rw [List.getElem?_map]
  by_cases hi : i < nk
  · rw [List.getElem?_range hi]
    by_cases e : c.key = i
    · rw [e, List.getElem?_set_self (by simpa using hi)]
      simp [lof_snoc, e]
    · rw [List.getElem?_set_ne e, List.getElem?_map, List.getElem?_range hi]
      simp [lof_snoc, e]
  · have h1 : (List.range nk)[i]? = none := by simp; omega
    have h2 : ((List.range nk).map fun k => (lof cs k : Int)).length ≤ i := by simp; omega
    rw [h1, List.getElem?_eq_none (by rw [List.length_set]; exact h2)]
    rfl
theorem wrow_get {nk k : Nat} {cs : List Ch} (h : k < nk) : (wrow nk cs)[k]? = some (wof cs k) := by
  unfold wrow
  rw [List.getElem?_map, List.getElem?_range h]
  rfl
theorem lrow_get {nk k : Nat} {cs : List Ch} (h : k < nk) : (lrow nk cs)[k]? = some (lof cs k : Int) := by
  unfold lrow
  rw [List.getElem?_map, List.getElem?_range h]
  rfl
theorem wrow_len (nk : Nat) (cs : List Ch) : (wrow nk cs).length = nk := by simp [wrow]
theorem lrow_len (nk : Nat) (cs : List Ch) : (lrow nk cs).length = nk := by simp [lrow]
theorem wrow_nil (nk : Nat) : wrow nk [] = List.replicate nk 0 := by
  apply List.ext_getElem?
  intro i
  by_cases hi : i < nk
  · rw [wrow_get hi, List.getElem?_replicate, if_pos hi]
    rfl
  · rw [List.getElem?_eq_none (by rw [wrow_len]; omega), List.getElem?_eq_none (by simp; omega)]
theorem lrow_nil (nk : Nat) : lrow nk [] = List.replicate nk 0 := by
  apply List.ext_getElem?
  intro i
  by_cases hi : i < nk
  · rw [lrow_get hi, List.getElem?_replicate, if_pos hi]
    rfl
  · rw [List.getElem?_eq_none (by rw [lrow_len]; omega), List.getElem?_eq_none (by simp; omega)]
theorem take_snoc {α : Type} {xs : List α} {i : Nat} {x : α} (h : xs[i]? = some x) : xs.take (i + 1) = xs.take i ++ [x] := by
  rw [List.take_add_one, h]
  rfl

section
variable {K : PySem.W.Frag} {H H' : Hp}
theorem RpL.snoc_inv : ∀ {ds : List PyData} {d : PyData} {vs : List V}, RpL K H (ds ++ [d]) vs → ∃ us v, vs = us ++ [v] ∧ RpL K H ds us ∧ Rp K H d v
  | [], d, vs, h => by
    obtain ⟨v, r, e, h1, h2⟩ := RpL.cons_inv (show RpL K H [d] vs from h)
    have := h2.nil_inv
    subst this
    exact ⟨[], v, e, .nil, h1⟩
  | c :: ds, d, vs, h => by
    obtain ⟨v, r, e, h1, h2⟩ := RpL.cons_inv (show RpL K H (c :: (ds ++ [d])) vs from h)
    obtain ⟨us, u, e2, h3, h4⟩ := RpL.snoc_inv h2
    subst e2
    exact ⟨v :: us, u, e, .cons h1 h3, h4⟩
/-- a list of ints that stays -/
theorem Rp.il_inv {ns : List Int} {v : V} (h : Rp K H (ilst ns) v) : ∃ a, v = .ref a ∧ FzL K H a (ns.map V.int) := by
  obtain ⟨a, xs, e, f, r⟩ := h.lst_inv
  rw [r.ints] at f
  exact ⟨a, e, f⟩
theorem Rp.il {ns : List Int} {a : Addr} (h : FzL K H a (ns.map V.int)) : Rp K H (ilst ns) (.ref a) := .lst h (RpL.of_ints ns)
theorem Rp.ch_inv {c : Ch} {v : V} (h : Rp K H c.enc v) : ∃ a, v = .ref a ∧ H a = some (.tup [.int c.key, .str (wd c.set), .int c.worth]) := by
  obtain ⟨a, xs, e, f, r⟩ := h.tup_inv
  obtain ⟨v1, r1, e1, h1, r⟩ := r.cons_inv
  obtain ⟨v2, r2, e2, h2, r⟩ := r.cons_inv
  obtain ⟨v3, r3, e3, h3, r⟩ := r.cons_inv
  have := r.nil_inv
  subst this e3 e2 e1
  have h1 := Rp.int_iff.mp h1
  have h2 := Rp.str_iff.mp h2
  have h3 := Rp.int_iff.mp h3
  subst h1 h2 h3
  exact ⟨a, e, f⟩
theorem Rp.row_inv {nk : Nat} {cs : List Ch} {v : V} (h : Rp K H (rowD nk cs) v) : ∃ a p q, v = .ref a ∧ H a = some (.tup [.ref p, .ref q]) ∧ FzL K H p ((wrow nk cs).map V.int) ∧ FzL K H q ((lrow nk cs).map V.int) := by
  obtain ⟨a, xs, e, f, r⟩ := h.tup_inv
  obtain ⟨v1, r1, e1, h1, r⟩ := r.cons_inv
  obtain ⟨v2, r2, e2, h2, r⟩ := r.cons_inv
  have := r.nil_inv
  subst this e2 e1
  obtain ⟨p, e1, f1⟩ := h1.il_inv
  obtain ⟨q, e2, f2⟩ := h2.il_inv
  subst e1 e2
  exact ⟨a, p, q, e, f, f1, f2⟩
theorem Rp.row {nk : Nat} {cs : List Ch} {a p q : Addr} (h : H a = some (.tup [.ref p, .ref q])) (f1 : FzL K H p ((wrow nk cs).map V.int)) (f2 : FzL K H q ((lrow nk cs).map V.int)) : Rp K H (rowD nk cs) (.ref a) :=
  .tup h (.cons (.il f1) (.cons (.il f2) .nil))
end
theorem Dice.use {K : PySem.W.Frag} {H : Hp} {a : Addr} {R : Lg} (d : Dice K H a R) : ∃ R0, Has H R0 ∧ ∀ H', Mono H H' → Has H' R0 → Dice K H' a R :=
  let ⟨c, ns, i, m, r, h1, h2, h3, h⟩ := d
  ⟨_, h, fun _ m' h' => ⟨c, ns, i, m, r, h1, h2, h3.mono m', h'⟩⟩
end Cu

namespace Cu
open PySem PySem.Spec PyProof.Rows L2
/-- what is owned goes from C to C', whatever else is owned; nothing else changes -/
structure Tr (H : Hp) (C : Lg) (H' : Hp) (C' : Lg) : Prop where
  mono : Mono H H'
  has : ∀ R, Has H (C ++ R) → Has H' (C' ++ R)
abbrev Grow (H H' : Hp) : Prop := Tr H [] H' []
section
variable {K : PySem.W.Frag} {H H1 H2 : Hp} {C C1 C2 D : Lg} {a p : Addr} {o o' : HO} {R : Lg}
theorem Tr.refl (H : Hp) (C : Lg) : Tr H C H C := ⟨Mono.refl H, fun _ h => h⟩
theorem Tr.trans (t : Tr H C H1 C1) (u : Tr H1 C1 H2 C2) : Tr H C H2 C2 := ⟨t.mono.trans u.mono, fun R h => u.has R (t.has R h)⟩
theorem Tr.right (t : Tr H C H1 C1) : Tr H (C ++ D) H1 (C1 ++ D) := ⟨t.mono, fun R h => by
  rw [List.append_assoc] at h ⊢
  exact t.has _ h⟩
theorem Tr.left (t : Tr H C H1 C1) : Tr H (D ++ C) H1 (D ++ C1) := ⟨t.mono, fun R h => by
  rw [List.append_assoc] at h ⊢
  exact (t.has _ h.swap).swap⟩
theorem Tr.now (t : Tr H C H1 C1) (h : Has H C) : Has H1 C1 := by
  have := t.has [] (by rw [List.append_nil]; exact h)
  rwa [List.append_nil] at this
theorem Tr.own (t : Tr H [] H1 C1) : Has H1 C1 := t.now .nil
theorem Tr.grow (t : Tr H C H1 C1) (g : Grow H1 H2) : Tr H C H2 C1 := t.trans (by simpa using g.right (D := C1))
theorem Tr.new (t : Tr H C H1 C1) (f : H1 p = none) (n : ¬ Imm o) : Tr H C (upd H1 p o) ((p, o) :: C1) := ⟨t.mono.trans (Mono.new f), fun R h => (t.has R h).new f n⟩
theorem Tr.old (t : Tr H C H1 C1) (f : H1 p = none) : Tr H C (upd H1 p o) C1 := ⟨t.mono.trans (Mono.new f), fun R h => (t.has R h).old f⟩
theorem Tr.put (t : Tr H C H1 ((p, o) :: C1)) (h : Has H C) (n : ¬ Imm o') : Tr H C (upd H1 p o') ((p, o') :: C1) := ⟨t.mono.trans (t.now h).mono_put, fun R h => (t.has R h).put n⟩
theorem Tr.fz {xs : List V} {ob : Obj} (t : Tr H C H1 ((p, .lst xs) :: C1)) (h : Has H C) : Tr H C (upd H1 p (.frz ob (.lst xs))) C1 :=
  ⟨t.mono.trans (t.now h).mono_put, fun R h => (t.has R h).tail.off (List.nodup_cons.mp (t.has R h).nd).1⟩
theorem Tr.perm (t : Tr H C H1 C1) (e : C1.Perm C2) : Tr H C H1 C2 := ⟨t.mono, fun R h => (t.has R h).perm (e.append_right R)⟩
theorem Tr.sub (t : Tr H C H1 C1) (e : C2.Sublist C1) : Tr H C H1 C2 := ⟨t.mono, fun R h => (t.has R h).sub (e.append_right R)⟩
theorem Tr.tail (t : Tr H C H1 ((p, o) :: C1)) : Tr H C H1 C1 := t.sub (List.sublist_cons_self _ _)
theorem Tr.swap2 {q r : Addr × HO} (t : Tr H C H1 (q :: r :: C1)) : Tr H C H1 (r :: q :: C1) := t.perm (List.Perm.swap _ _ _)
/-- a new list, frozen at once -/
theorem Tr.nfz {xs : List V} {ob : Obj} (t : Tr H C H1 C1) (f : H1 p = none) : Tr H C (upd (upd H1 p (.lst xs)) p (.frz ob (.lst xs))) C1 :=
  ⟨t.mono.trans ((Mono.new f).trans (Mono.put upd_same fun h => h)), fun R h => ((t.has R h).old f).off ((t.has R h).notin f)⟩
theorem Grow.mono' (g : Grow H H1) : Mono H H1 := g.mono
theorem Grow.has' (g : Grow H H1) (h : Has H R) : Has H1 R := g.has R h
theorem Grow.refl (H : Hp) : Grow H H := Tr.refl H []
theorem Grow.new (f : H p = none) : Grow H (upd H p o) := (Tr.refl H []).old f
/-- a new tuple goes to the end of an owned list -/
theorem snoc_tup {l t : Addr} {ys us : List V} {ds : List PyData} (h : Has H ((l, .lst ys) :: C)) (ht : H t = none) (r : RpL K H ds us) :
    Tr H ((l, .lst ys) :: C) (upd (upd H t (.tup us)) l (.lst (ys ++ [.ref t]))) ((l, .lst (ys ++ [.ref t])) :: C) ∧ Rp K (upd (upd H t (.tup us)) l (.lst (ys ++ [.ref t]))) (.tuple ds) (.ref t) := by
  have s1 := (Tr.refl H ((l, .lst ys) :: C)).old (o := .tup us) ht
  have s2 := s1.put (o' := .lst (ys ++ [.ref t])) h nl
  exact ⟨s2, .tup ((s1.now h).mono_put _ _ upd_same trivial) (r.mono s2.mono)⟩
theorem Dice.grow (d : Dice K H a R) (g : Grow H H1) : Dice K H1 a R := by
  obtain ⟨R0, h0, back⟩ := d.use
  exact back _ g.mono (g.has _ h0)
theorem Dice.tr (d : Dice K H a (C ++ R)) (t : Tr H C H1 C1) : Dice K H1 a (C1 ++ R) :=
  let ⟨c, ns, i, m, r, h1, h2, h3, h⟩ := d
  ⟨c, ns, i, m, r, h1, h2, h3.mono t.mono, by
    have := t.has ((a, .lst [.ref c, .int i, .int m, .int r]) :: R) h.swap1
    exact this.unswap1⟩
theorem Dice.tr0 (d : Dice K H a C) (t : Tr H C H1 C1) : Dice K H1 a C1 := by
  have := Dice.tr (R := []) (by rw [List.append_nil]; exact d) t
  rwa [List.append_nil] at this
end
end Cu

namespace Cu
open PySem PySem.Spec PyProof.Rows L2
/-! data that may be compared -/
def Gd (n : Nat) (d : PyData) : Prop := d.canLay0 = true ∧ d.depth ≤ n
theorem Gd.mono {n m : Nat} {d : PyData} (h : Gd n d) (e : n ≤ m) : Gd m d := ⟨h.1, Nat.le_trans h.2 e⟩
theorem Gd.int {n : Nat} {i : Int} : Gd n (.int i) := ⟨by simp [PyData.canLay0], by simp [PyData.depth]⟩
theorem Gd.none {n : Nat} : Gd n .none := ⟨by simp [PyData.canLay0], by simp [PyData.depth]⟩
theorem Gd.bool {n : Nat} {b : Bool} : Gd n (.bool b) := ⟨by simp [PyData.canLay0], by simp [PyData.depth]⟩
theorem Gd.str {n : Nat} {s : Str} (h : PyData.strOk s = true) : Gd n (.str s) := ⟨by simpa [PyData.canLay0] using h, by simp [PyData.depth]⟩
theorem canAll : ∀ {ds : List PyData}, (∀ d ∈ ds, d.canLay0 = true) → PyData.canLayAll0 ds = true
  | [], _ => by simp [PyData.canLayAll0]
  | d :: ds, h => by
    simp only [PyData.canLayAll0, Bool.and_eq_true]
    exact ⟨h d List.mem_cons_self, canAll fun e he => h e (List.mem_cons_of_mem _ he)⟩
theorem depthAll_le {n : Nat} : ∀ {ds : List PyData}, (∀ d ∈ ds, d.depth ≤ n) → PyData.depthAll ds ≤ n
  | [], _ => by simp [PyData.depthAll]
  | d :: ds, h => by
    simp only [PyData.depthAll]
    exact Nat.max_le.mpr ⟨h d List.mem_cons_self, depthAll_le fun e he => h e (List.mem_cons_of_mem _ he)⟩
theorem Gd.list {n : Nat} {ds : List PyData} (h : ∀ d ∈ ds, Gd n d) : Gd (n + 1) (.list ds) := by
  refine ⟨?_, ?_⟩
  · simp only [PyData.canLay0]
    exact canAll fun d hd => (h d hd).1
  · simp only [PyData.depth]
    have := depthAll_le fun d hd => (h d hd).2
    omega
theorem Gd.tuple {n : Nat} {ds : List PyData} (h : ∀ d ∈ ds, Gd n d) : Gd (n + 1) (.tuple ds) := by
  refine ⟨?_, ?_⟩
  · simp only [PyData.canLay0]
    exact canAll fun d hd => (h d hd).1
  · simp only [PyData.depth]
    have := depthAll_le fun d hd => (h d hd).2
    omega
theorem Gd.all_nil {n : Nat} : ∀ d ∈ ([] : List PyData), Gd n d := fun _ h => (nomatch h)
theorem Gd.all_cons {n : Nat} {d : PyData} {ds : List PyData} (h : Gd n d) (r : ∀ d ∈ ds, Gd n d) : ∀ e ∈ d :: ds, Gd n e := fun e he => by
  rcases List.mem_cons.mp he with rfl | he
  · exact h
  · exact r e he
theorem Gd.shaped {n : Nat} {d : PyData} (h : Gd n d) (e : n ≤ 64 := by decide) : SeqAt.shaped d = true := by
  unfold SeqAt.shaped
  rw [Bool.and_eq_true]
  exact ⟨h.1, decide_eq_true (Nat.le_trans h.2 e)⟩
theorem Gd.refl {n : Nat} {d : PyData} (h : Gd n d) : PyData.eqv d d = true := SeqAt.eqv_refl d h.1
theorem Gd.ilst {n : Nat} (ns : List Int) : Gd (n + 1) (ilst ns) := .list fun d hd => by
  obtain ⟨i, _, rfl⟩ := List.mem_map.mp hd
  exact .int
theorem wd_ok (b : Bool) : PyData.strOk (wd b) = true := by cases b <;> decide +kernel
theorem Gd.letter (l : Letter) : Gd 4 l.enc := by
  cases l with
  | change n c ahead => exact .tuple (.all_cons (.str (by decide +kernel)) (.all_cons .int (.all_cons .int (.all_cons (.str (wd_ok _)) (.all_cons .int (.all_cons .int .all_nil))))))
  | part n b rows =>
    refine .tuple (.all_cons (.str (by decide +kernel)) (.all_cons .int (.all_cons .int (.all_cons (.tuple fun d hd => ?_) .all_nil))))
    obtain ⟨r, _, rfl⟩ := List.mem_map.mp hd
    exact .tuple (.all_cons .int (.all_cons .int .all_nil))
  | beat n lasts =>
    refine .tuple (.all_cons (.str (by decide +kernel)) (.all_cons .int (.all_cons (.tuple fun d hd => ?_) .all_nil)))
    obtain ⟨r, _, rfl⟩ := List.mem_map.mp hd
    exact .int
theorem Gd.letters (ls : List Letter) : Gd 5 (.list (ls.map Letter.enc)) := .list fun d hd => by
  obtain ⟨l, _, rfl⟩ := List.mem_map.mp hd
  exact .letter l
theorem Gd.nil {n : Nat} : Gd (n + 1) (.list []) := .list .all_nil
theorem eqv_nil (ds : List PyData) : PyData.eqv (.list ds) (.list []) = ds.isEmpty := by
  cases ds <;> simp [PyData.eqv, PyData.eqvAll]
theorem eqv_ilst : ∀ {ns ms : List Int}, PyData.eqv (ilst ns) (ilst ms) = decide (ns = ms)
  | [], [] => by simp [ilst, PyData.eqv, PyData.eqvAll]
  | [], _ :: _ => by simp [ilst, PyData.eqv, PyData.eqvAll]
  | _ :: _, [] => by simp [ilst, PyData.eqv, PyData.eqvAll]
  | n :: ns, m :: ms => by
    have ih := eqv_ilst (ns := ns) (ms := ms)
    simp only [ilst, PyData.eqv] at ih
    simp only [ilst, List.map_cons, PyData.eqv, PyData.eqvAll, ih]
    by_cases h : n = m <;> simp [h]
theorem Dp.nil {K : PySem.W.Frag} {H : Hp} {a : Addr} (h : H a = some (.lst [])) : Dp K H (.ref a) (.list []) := .lst (SqL.of h) .nil
theorem cutV_to {xs : List V} {k : Nat} (h : k ≤ xs.length) : cutV xs none (some (k : Int)) = xs.take k := by
  unfold cutV
  rw [HT.sIx_none, HT.sIx_nat, Nat.min_eq_left h, List.drop_zero, Nat.sub_zero]
theorem cutV_from {xs : List V} {k : Nat} (h : k ≤ xs.length) : cutV xs (some (k : Int)) none = xs.drop k := by
  unfold cutV
  rw [HT.sIx_none, HT.sIx_nat, Nat.min_eq_left h, List.take_of_length_le (by simp)]
end Cu

namespace Cu
open PySem PySem.Spec PyProof.Rows L2
abbrev s_story : Stmt := (top 14)
theorem sc_story : FnScope ["_law_keys", "_law_changes_here", "_law_rows", "_law_letters", "_law_k", "_law_key", "_law_word", "_law_worth_here", "_law_worths", "_law_lasts", "_law_more"] ["_law_keys", "_law_changes_here"] (defScope s_story) := ⟨rfl, rfl, rfl, by decide +kernel, rfl, by decide +kernel, by decide +kernel⟩

def storyD (nk : Nat) (cs : List Ch) : PyData := .tuple [.list (rowsD nk cs), .list ((lets cs).map Letter.enc)]
def spStory (K : PySem.W.Frag) : Sp := fun vs H Q _ => vs.length = 2 ∧ ∃ (nk : Nat) (cs : List Ch) (v : V), vs = [.int nk, v] ∧ nk ≤ 8 ∧ cs.length ≤ 1000 ∧ (∀ c ∈ cs, c.key < nk) ∧ Rp K H (.list (cs.map Ch.enc)) v ∧
  ∀ (u : V) (H' : Hp), Grow H H' → Rp K H' (storyD nk cs) u → Q u H'
theorem rep0 (nk : Nat) : (List.replicate ((nk : Int).toNat) [V.int 0]).flatten = (List.replicate nk (0 : Int)).map V.int := by
  rw [Int.toNat_natCast, List.map_replicate]
  induction nk with
  | zero => rfl
  | succ n ih =>
    rw [List.replicate_succ, List.replicate_succ, List.flatten_cons, ih]
    rfl
/-- [0] * keys, from now on never changed -/
theorem rd_zeros {K : PySem.W.Frag} {σ : L2.St} {H : Hp} {Q : VK} {i nk : Nat} (h1 : σ[i]? = some (some (.int nk))) (hk : nk ≤ 8)
    (q : ∀ p H', Grow H H' → FzL K H' p ((List.replicate nk (0 : Int)).map V.int) → Q (.ref p) H') :
    tFz (tOp rRep (tLst (tCons (tC (.int 0)) tNil)) (tVar i)) σ H Q := by
  refine rd_fz ⟨(by show 1 ≤ sizeLine; decide), fun p1 hp1 => ⟨_, h1, p1, (nk : Int), _, rfl, rfl, upd_same, by omega, by omega, ?_, fun p2 hp2 => ⟨_, _, rfl, upd_same, fun o => ?_⟩⟩⟩
  · show 1 * (nk : Int).toNat ≤ sizeLine
    rw [Nat.one_mul, Int.toNat_natCast]
    exact Nat.le_trans hk (by decide)
  · rw [rep0]
    exact q _ _ ((Grow.new hp1).nfz hp2) FzL.frz
/-- xs[:k] + [z] + xs[k + 1:], from now on never changed -/
theorem rd_cut {K : PySem.W.Frag} {σ : L2.St} {H : Hp} {Q : VK} {i j : Nat} {te : TE} {a : Addr} {ns : List Int} {k : Nat} {z : Int} (h1 : σ[i]? = some (some (.ref a))) (h2 : σ[j]? = some (some (.int k))) (f : FzL K H a (ns.map V.int))
    (hk : k < ns.length) (hl : ns.length ≤ 1000) (he : ∀ (H1 : Hp) (Q1 : VK), Q1 (.int z) H1 → te σ H1 Q1) (q : ∀ p H', Grow H H' → FzL K H' p ((ns.set k z).map V.int) → Q (.ref p) H') :
    tFz (tOp rCat (tOp rCat (tSl (rSlL K) (tVar i) tNoPart (tPart (tVar j))) (tLst (tCons te tNil))) (tSl (rSlL K) (tVar i) (tPart (tOp (rI0 fun i j => .int (i + j)) (tVar j) (tC (.int 1)))) tNoPart)) σ H Q := by
  have hk' : k < (ns.map V.int).length := by rw [List.length_map]; exact hk
  have hl' : (ns.map V.int).length ≤ 1000 := by rw [List.length_map]; exact hl
  have z1 : 1000 ≤ sizeLine := by decide
  refine rd_fz ⟨_, h1, _, h2, _, rfl, a, _, rfl, f.sq, fun p1 hp1 => he _ _ ⟨(by show 1 ≤ sizeLine; decide), fun p2 hp2 => ?_⟩⟩
  have n12 : p1 ≠ p2 := ne_of_none upd_same hp2
  rw [cutV_to (Nat.le_of_lt hk')] at hp2 ⊢
  refine ⟨_, _, _, _, rfl, rfl, (by rw [upd_ne n12]; exact upd_same), upd_same, ?_, fun p3 hp3 => ?_⟩
  · rw [List.length_take, Nat.min_eq_left (Nat.le_of_lt hk')]
    exact Nat.le_trans (show k + 1 ≤ 1000 by omega) z1
  have g1 := (((Grow.refl H).old (o := .lst ((ns.map V.int).take k)) hp1).old (o := .lst [.int z]) hp2).old (o := .lst ((ns.map V.int).take k ++ [.int z])) hp3
  refine ⟨_, h1, _, h2, _, _, rfl, rfl, _, rfl, a, _, rfl, (f.mono g1.mono).sq, fun p4 hp4 => ?_⟩
  have e1 : ((k : Int) + 1) = ((k + 1 : Nat) : Int) := by omega
  rw [e1, cutV_from hk']
  have n34 : p3 ≠ p4 := ne_of_none upd_same hp4
  refine ⟨_, _, _, _, rfl, rfl, (by rw [upd_ne n34]; exact upd_same), upd_same, ?_, fun p5 hp5 => ⟨_, _, rfl, upd_same, fun o => ?_⟩⟩
  · rw [List.length_append, List.length_take, List.length_drop, Nat.min_eq_left (Nat.le_of_lt hk')]
    exact Nat.le_trans (show k + 1 + _ ≤ 1000 by omega) z1
  rw [set_cut _ _ _ hk', ← List.map_set]
  exact q _ _ ((g1.old hp4).nfz hp5) FzL.frz
section
variable {P : Program} {w : World} {K : PySem.W.Frag} {mg : Str → Option Value} {base : Heap}
theorem ok_story (F : Fd K mg "_law_story" s_story) (Bm : Blt mg) : Gf P w K mg base 1 "_law_story" ["_law_keys", "_law_changes_here"] (spStory K) := by
  refine F.ok sc_story (fun _ _ _ _ _ _ us hl => match us, hl with | [_, _], _ => rfl) len_of fun qual f cdv A outer s H vs Q E hr h => ?_
  obtain ⟨_, nk, cs, v, rfl, hk, hlen, hcs, hv, k⟩ := h
  obtain ⟨a, xc, rfl, fc, rc⟩ := hv.lst_inv
  have hxc : xc.length = cs.length := by rw [rc.length, List.length_map]
  refine ⟨_, (pss_cons (ps_set (i := 2) sc_story.nd rfl (Or.inl rfl) (pe_lst (pa_cons (pe_tup (pa_cons (pe_fz (pe_op op_rep (pe_lst (pa_cons pe_int pa_nil)) (pv 0))) (pa_cons (pe_fz (pe_op op_rep (pe_lst (pa_cons pe_int pa_nil)) (pv 0))) pa_nil))) pa_nil)))
      (pss_cons (ps_set (i := 3) sc_story.nd rfl (Or.inl rfl) (pe_lst pa_nil))
      (pss_cons (ps_for PassesOwn.never rfl (pi_range1 rfl Bm.range (pa_cons (pe_callB call_len_seq rfl Bm.len (by decide +kernel) (pa_cons (pv 1) pa_nil)) pa_nil)) (pg_name (i := 4) sc_story.nd rfl (Or.inl rfl))
        (pss_cons (ps_asg (pe_ix ix_list (pv 1) (pv 4) (fun _ _ => rfl)) (pg_tup rfl (pgs_cons (pg_name (i := 5) sc_story.nd rfl (Or.inl rfl)) (pgs_cons (pg_name (i := 6) sc_story.nd rfl (Or.inl rfl)) (pgs_cons (pg_name (i := 7) sc_story.nd rfl (Or.inl rfl)) pgs_nil)))))
        (pss_cons (ps_asg (pe_ix ix_list (pv 2) (pe_un un_neg pe_int) (fun _ _ => rfl)) (pg_tup rfl (pgs_cons (pg_name (i := 8) sc_story.nd rfl (Or.inl rfl)) (pgs_cons (pg_name (i := 9) sc_story.nd rfl (Or.inl rfl)) pgs_nil))))
        (pss_cons (ps_expr (pe_bm PySem.F.plainAttrs_list PySem.F.slot_list_append PySem.F.type_list_append mt_append (pv 3) (pa_cons (pe_tup (pa_cons pe_str (pa_cons (pe_op op_add (pv 4) pe_int) (pa_cons (pv 5) (pa_cons (pv 6) (pa_cons (pv 7) (pa_cons (pe_ix ix_list (pv 9) (pv 5) (fun _ _ => rfl)) pa_nil))))))) pa_nil)))
        (pss_cons (ps_set (i := 10) sc_story.nd rfl (Or.inl rfl) (pe_op op_add (pe_op op_mul (pe_ix ix_list (pv 8) (pv 5) (fun _ _ => rfl)) (pe_callTy call_int1 rfl Bm.int (by decide +kernel) (pa_cons (pe_cmpR op_eq (pv 6) pe_str (nomark _)) pa_nil))) (pv 7)))
        (pss_one (ps_expr (pe_bm PySem.F.plainAttrs_list PySem.F.slot_list_append PySem.F.type_list_append mt_append (pv 2) (pa_cons (pe_tup (pa_cons (pe_fz (pe_op op_cat (pe_op op_cat (pe_slice sl_list (pv 8) po_none (po_some (pv 5))) (pe_lst (pa_cons (pv 10) pa_nil))) (pe_slice sl_list (pv 8) (po_some (pe_op op_add (pv 5) pe_int)) po_none))) (pa_cons (pe_fz (pe_op op_cat (pe_op op_cat (pe_slice sl_list (pv 9) po_none (po_some (pv 5))) (pe_lst (pa_cons (pe_op op_add (pv 4) pe_int) pa_nil))) (pe_slice sl_list (pv 9) (po_some (pe_op op_add (pv 5) pe_int)) po_none))) pa_nil))) pa_nil)))))))))
      (pss_one (ps_ret (pe_tup (pa_cons (pe_fz (pv 2)) (pa_cons (pe_fz (pv 3)) pa_nil)))))))), ?_⟩
  refine rd_zeros (K := K) (by rfl) hk fun p1 H1 g1 f1 => ?_
  refine rd_zeros (K := K) (by rfl) hk fun p2 H2 g2 f2 => ?_
  refine ⟨(by show 2 ≤ sizeLine; decide), fun t ht => ⟨(by show 1 ≤ sizeLine; decide), fun r hr' => ⟨(by show 0 ≤ sizeLine; decide), fun l hl => ?_⟩⟩⟩
  have t1 : Tr H [] (upd (upd (upd H2 t (.tup [.ref p1, .ref p2])) r (.lst [.ref t])) l (.lst [])) [(l, .lst []), (r, .lst [.ref t])] := (((g1.trans g2).old ht).new hr' nl).new hl nl
  have mt : Mono H2 (upd (upd (upd H2 t (.tup [.ref p1, .ref p2])) r (.lst [.ref t])) l (.lst [])) := ((Mono.new ht).trans (Mono.new hr')).trans (Mono.new hl)
  refine ⟨_, rfl, a, xc, rfl, .inl (fc.mono t1.mono).sq, _, rfl, by omega, by omega, for_range (lo := 0) (n := (xc.length : Int).toNat) (fun i σ H3 => ∃ (xs ys : List V) (v4 v5 v6 v7 v8 v9 v10 : Option V),
    σ = [some (.int nk), some (.ref a), some (.ref r), some (.ref l), v4, v5, v6, v7, v8, v9, v10] ∧ Tr H [] H3 [(l, .lst ys), (r, .lst xs)] ∧ RpL K H3 (rowsD nk (cs.take i)) xs ∧ RpL K H3 ((lets (cs.take i)).map Letter.enc) ys)
    ⟨[.ref t], [], none, none, none, none, none, none, none, rfl, t1, ?_, ?_⟩ ?_ ?_⟩
  · refine .cons (.row (p := p1) (q := p2) (((Mono.new hr').trans (Mono.new hl)) _ _ upd_same trivial) ?_ ?_) .nil
    · show FzL K _ p1 ((wrow nk []).map V.int)
      rw [wrow_nil]
      exact f1.mono (g2.mono.trans mt)
    · show FzL K _ p2 ((lrow nk []).map V.int)
      rw [lrow_nil]
      exact f2.mono mt
  · exact .nil
  · rintro i σ H3 hi ⟨xs, ys, v4, v5, v6, v7, v8, v9, v10, rfl, t3, rx, ry⟩
    have hi' : i < cs.length := by omega
    obtain ⟨c, hc⟩ : ∃ c, cs[i]? = some c := ⟨cs[i], List.getElem?_eq_getElem hi'⟩
    have hck : c.key < nk := hcs c (List.mem_of_getElem? hc)
    obtain ⟨u, hu, ru⟩ := (rc.mono t3.mono).get (i := i) (d := c.enc) (by rw [List.getElem?_map, hc]; rfl)
    obtain ⟨ac, rfl, hac⟩ := ru.ch_inv
    obtain ⟨init, hinit⟩ := rowsD_last nk (cs.take i)
    rw [hinit] at rx
    obtain ⟨us, w1, rfl, rus, rw1⟩ := rx.snoc_inv
    obtain ⟨ar, pw, pl, rfl, har, fw, fl⟩ := rw1.row_inv
    have hh := t3.own
    have hitake : (cs.take i).length = i := by rw [List.length_take]; omega
    -- key, word, worth = changes[k]
    refine ⟨_, rfl, _, rfl, a, xc, _, _, rfl, rfl, (fc.mono t3.mono).sq, at_of (by omega) hu, ac, _, rfl, SqT.of hac, rfl, _, _, rfl, _, _, rfl, _, _, rfl, rfl, ?_⟩
    -- worths, lasts = rows[-1]
    refine ⟨_, rfl, _, rfl, r, _, _, _, rfl, rfl, SqL.of hh.tail.head, atI_last _ _, ar, _, rfl, SqT.of har, rfl, _, _, rfl, _, _, rfl, rfl, ?_⟩
    -- letters.append(..)
    have gl : (lrow nk (cs.take i))[c.key]? = some (lof (cs.take i) c.key : Int) := lrow_get hck
    have gw : (wrow nk (cs.take i))[c.key]? = some (wof (cs.take i) c.key) := wrow_get hck
    refine ⟨_, rfl, .inl ⟨rfl, _, SqL.of hh.head⟩, _, rfl, _, _, rfl, rfl, _, rfl, _, rfl, _, rfl, _, rfl, _, rfl, pl, _, _, _, rfl, rfl, fl.sq, at_of (j := c.key) rfl (by rw [List.getElem?_map, gl]; rfl), ⟨(by show 6 ≤ sizeLine; decide), fun tl htl => ?_⟩⟩
    have hy : ys.length = i := by rw [ry.length, List.length_map, lets_length, hitake]
    obtain ⟨s5, rtl⟩ := snoc_tup (K := K) (ds := [.str "change", .int (0 + i + 1), .int c.key, .str (wd c.set), .int c.worth, .int (lof (cs.take i) c.key)]) hh htl (.cons .str (.cons .int (.cons .int (.cons .str (.cons .int (.cons .int .nil))))))
    have e1 : ((0 : Int) + i + 1) = ((i + 1 : Nat) : Int) := by omega
    have ed : Letter.enc (.change (i + 1) c (lof (cs.take i) c.key)) = .tuple [.str "change", .int (0 + i + 1), .int c.key, .str (wd c.set), .int c.worth, .int (lof (cs.take i) c.key)] := by
      rw [e1]
      rfl
    rw [← ed] at rtl
    refine ⟨_, _, _, rfl, rfl, by rw [upd_ne (ne_of_none hh.head htl)]; exact hh.head, (by rw [hy]; exact small1000 (by omega)), ?_⟩
    have t5 := t3.trans s5
    have m5 := s5.mono
    -- more = worths[key] * int(word == 'add') + worth
    refine ⟨_, rfl, _, rfl, pw, _, _, _, rfl, rfl, (fw.mono m5).sq, at_of (j := c.key) rfl (by rw [List.getElem?_map, gw]; rfl), _, rfl, rfl, .inr ⟨_, rfl, _, _, rfl, rfl, .inr (by split <;> exact ⟨by decide, by decide⟩), _, rfl, _, _, rfl, rfl, ?_⟩⟩
    have emore : wof (cs.take i) c.key * (if decide (V.str (wd c.set) = V.str "add") = true then 1 else 0) + c.worth = wst c.key (wof (cs.take i) c.key) c := by
      unfold wst
      rw [if_pos rfl]
      cases c.set with
      | true =>
        rw [if_neg (by decide +kernel), if_pos rfl, Int.mul_zero]
      | false =>
        rw [if_pos (by decide +kernel), if_neg (by decide), Int.mul_one]
    -- rows.append(..)
    refine ⟨_, rfl, .inl ⟨rfl, _, SqL.of t5.own.tail.head⟩, ?_⟩
    refine rd_cut (z := wof (cs.take i) c.key * (if decide (V.str (wd c.set) = V.str "add") = true then 1 else 0) + c.worth) (by rfl) (by rfl) (fw.mono m5) (by rw [wrow_len]; exact hck) (by rw [wrow_len]; omega) (fun _ _ q => ⟨_, rfl, q⟩) fun p5 H5 g5 f5 => ?_
    rw [emore] at f5
    refine rd_cut (z := 0 + i + 1) (by rfl) (by rfl) (fl.mono (m5.trans g5.mono)) (by rw [lrow_len]; exact hck) (by rw [lrow_len]; omega) (fun _ _ q => ⟨_, rfl, _, _, rfl, rfl, q⟩) fun p6 H6 g6 f6 => ⟨(by show 2 ≤ sizeLine; decide), fun t7 ht7 => ?_⟩
    rw [e1] at f6
    have t6 := ((t5.grow g5).grow g6).swap2
    obtain ⟨s8, r8⟩ := snoc_tup (K := K) (ds := [ilst (wrow nk (cs.take i ++ [c])), ilst (lrow nk (cs.take i ++ [c]))]) (us := [.ref p5, .ref p6]) t6.own ht7 (.cons (.il (by rw [wrow_snoc]; exact f5.mono g6.mono)) (.cons (.il (by rw [lrow_snoc, hitake]; exact f6)) .nil))
    have hx : (us ++ [V.ref ar]).length = i + 1 := by
      have := (rus.snoc rw1).length
      rw [← hinit, rowsD_length, hitake] at this
      exact this
    refine ⟨_, _, _, rfl, rfl, by rw [upd_ne (ne_of_none t6.own.head ht7)]; exact t6.own.head, (by rw [hx]; exact small1000 (by omega)), ?_⟩
    have m8 := s8.mono
    refine ⟨us ++ [.ref ar] ++ [.ref t7], ys ++ [.ref tl], _, _, _, _, _, _, _, rfl, (t6.trans s8).swap2, ?_, ?_⟩
    · rw [take_snoc hc, rowsD_snoc, hinit]
      exact ((rus.snoc rw1).mono (((m5.trans g5.mono).trans g6.mono).trans m8)).snoc r8
    · rw [take_snoc hc, lets_snoc, hitake, List.map_append]
      exact ((ry.mono m5).snoc rtl).mono ((g5.mono.trans g6.mono).trans m8)
  · rintro σ H3 ⟨xs, ys, v4, v5, v6, v7, v8, v9, v10, rfl, t3, rx, ry⟩
    have e : cs.take ((xc.length : Int).toNat) = cs := List.take_of_length_le (by omega)
    rw [e] at rx ry
    have t3' := t3.swap2
    refine rd_fz ⟨_, rfl, _, _, rfl, t3'.own.head, fun o1 => ?_⟩
    have t4 := t3'.fz (ob := o1) .nil
    refine rd_fz ⟨_, rfl, _, _, rfl, t4.own.head, fun o2 => ?_⟩
    have t5 := t4.fz (ob := o2) .nil
    refine ⟨(by show 2 ≤ sizeLine; decide), fun t6 ht6 => ?_⟩
    refine k _ _ (t5.old ht6) (.tup upd_same (.cons (.lst ?_ (rx.mono ?_)) (.cons (.lst ?_ (ry.mono ?_)) .nil)))
    · exact (FzL.frz (xs := xs)).mono (t4.own.mono_put.trans (Mono.new ht6))
    · exact (t3'.own.mono_put.trans t4.own.mono_put).trans (Mono.new ht6)
    · exact (FzL.frz (xs := ys)).mono (Mono.new ht6)
    · exact (t3'.own.mono_put.trans t4.own.mono_put).trans (Mono.new ht6)
end
end Cu

namespace Cu
open PySem PySem.Spec PyProof.Rows L2
def partRows (cs : List Ch) (n b m : Nat) : List (Int × Nat) := (List.range m).map fun i => (wof (cs.take n) (b + i), lof (cs.take n) (b + i))
def partL (cs : List Ch) (n b e : Nat) : Letter := .part n b (partRows cs n b (e - b))
def beatL (nk : Nat) (cs : List Ch) (n : Nat) : Letter := .beat n ((List.range nk).map fun k => lof (cs.take n) k)
/-- a letter of a board of nk keys, with the story cs, as it was at some time -/
inductive IsLet (nk : Nat) (cs : List Ch) : Letter → Prop
  | change {n : Nat} {c : Ch} : cs[n]? = some c → IsLet nk cs (.change (n + 1) c (lof (cs.take n) c.key))
  | part {n b e : Nat} : n ≤ cs.length → b < e → e ≤ nk → IsLet nk cs (partL cs n b e)
  | beat {n : Nat} : n ≤ cs.length → IsLet nk cs (beatL nk cs n)
section
variable {K : PySem.W.Frag}
theorem Rp.str_of {H : Hp} {ls : List Letter} {v : V} (h : Rp K H (.list (ls.map Letter.enc)) v) : ∃ a xs, v = .ref a ∧ FzL K H a xs ∧ RpL K H (ls.map Letter.enc) xs ∧ xs.length = ls.length := by
  obtain ⟨a, xs, e, f, r⟩ := h.lst_inv
  exact ⟨a, xs, e, f, r, by rw [r.length, List.length_map]⟩
end
end Cu

namespace Cu
open PySem PySem.Spec PyProof.Rows L2
abbrev s_part : Stmt := (top 15)
theorem sc_part : FnScope ["_law_rows", "_law_number", "_law_begin", "_law_end", "_law_worths", "_law_lasts", "_law_key"] ["_law_rows", "_law_number", "_law_begin", "_law_end"] (defScope s_part) := ⟨rfl, rfl, rfl, by decide +kernel, rfl, by decide +kernel, by decide +kernel⟩

abbrev s_beat : Stmt := (top 16)
theorem sc_beat : FnScope ["_law_rows", "_law_number"] ["_law_rows", "_law_number"] (defScope s_beat) := ⟨rfl, rfl, rfl, by decide +kernel, rfl, by decide +kernel, by decide +kernel⟩

def spPart (K : PySem.W.Frag) : Sp := fun vs H Q _ => vs.length = 4 ∧ ∃ (nk n b e : Nat) (cs : List Ch) (v : V), vs = [v, .int n, .int b, .int e] ∧ nk ≤ 8 ∧ n ≤ cs.length ∧ b < e ∧ e ≤ nk ∧ Rp K H (.list (rowsD nk cs)) v ∧
  ∀ (u : V) (H' : Hp), Grow H H' → Rp K H' (partL cs n b e).enc u → Q u H'
def spBeat (K : PySem.W.Frag) : Sp := fun vs H Q _ => vs.length = 2 ∧ ∃ (nk n : Nat) (cs : List Ch) (v : V), vs = [v, .int n] ∧ nk ≤ 8 ∧ n ≤ cs.length ∧ Rp K H (.list (rowsD nk cs)) v ∧
  ∀ (u : V) (H' : Hp), Grow H H' → Rp K H' (beatL nk cs n).enc u → Q u H'
section
variable {P : Program} {w : World} {K : PySem.W.Frag} {mg : Str → Option Value} {base : Heap}
theorem ok_part (F : Fd K mg "_law_part" s_part) (Bm : Blt mg) : Gf P w K mg base 1 "_law_part" ["_law_rows", "_law_number", "_law_begin", "_law_end"] (spPart K) := by
  refine F.ok sc_part (fun _ _ _ _ _ _ us hl => match us, hl with | [_, _, _, _], _ => rfl) len_of fun qual f cdv A outer s H vs Q E hr h => ?_
  obtain ⟨_, nk, n, b, e, cs, v, rfl, hk, hn, hbe, hek, hv, k⟩ := h
  obtain ⟨a, xr, rfl, fr, rr⟩ := hv.lst_inv
  obtain ⟨u, hu, ru⟩ := rr.get (rowsD_get (nk := nk) hn)
  obtain ⟨ar, pw, pl, rfl, har, fw, fl⟩ := ru.row_inv
  refine ⟨_, (pss_cons (ps_asg (pe_ix ix_list (pv 0) (pv 1) (fun _ _ => rfl)) (pg_tup rfl (pgs_cons (pg_name (i := 4) sc_part.nd rfl (Or.inr rfl)) (pgs_cons (pg_name (i := 5) sc_part.nd rfl (Or.inr rfl)) pgs_nil))))
      (pss_one (ps_ret (pe_tup (pa_cons pe_str (pa_cons (pv 1) (pa_cons (pv 2) (pa_cons (pe_callTy call_tuple_of rfl Bm.tuple (by decide +kernel) (pa_cons (pe_lc (own := [("_law_key", 6)]) (g := (gName 6)) (tt := tYes) rfl sc_part.nd (pi_range2 rfl Bm.range (pa_cons (pv 2) (pa_cons (pv 3) pa_nil))) (blkOk_by (N := ["_law_rows", "_law_number", "_law_begin", "_law_end", "_law_worths", "_law_lasts", "_law_key"]) (sc := defScope s_part) (by decide +kernel)) (fun _ _ _ _ _ => (pg_name (i := 6) sc_part.nd rfl (Or.inl rfl))) (fun _ _ _ _ _ => pts_nil) (fun _ _ _ _ _ => (pe_tup (pa_cons (pe_ix (ix_listK K rfl) (pv 4) (pv 6) (fun _ _ => rfl)) (pa_cons (pe_ix (ix_listK K rfl) (pv 5) (pv 6) (fun _ _ => rfl)) pa_nil))))) pa_nil)) pa_nil)))))))), ?_⟩
  refine ⟨_, rfl, _, rfl, a, xr, _, _, rfl, rfl, fr.sq, at_of (j := n) rfl hu, ar, _, rfl, SqT.of har, rfl, _, _, rfl, _, _, rfl, rfl, ?_⟩
  refine ⟨_, rfl, _, rfl, _, rfl, _, rfl, _, _, rfl, ⟨by omega, by omega, by omega, by omega⟩, fun D hD => ?_⟩
  refine lc_range (lo := b) (n := ((e : Int) - b).toNat) (fun i H2 => ∃ xs, Tr H [] H2 [(D, .lst xs)] ∧ RpL K H2 ((partRows cs n b i).map fun r => .tuple [.int r.1, .int r.2]) xs)
    ⟨[], (Tr.refl H []).new hD nl, .nil⟩ ?_ ?_
  · rintro i H2 hi ⟨xs, t2, rx⟩
    have hbi : b + i < nk := by omega
    have e1 : ((b : Int) + i) = ((b + i : Nat) : Int) := by omega
    refine ⟨rfl, ?_⟩
    refine ⟨_, rfl, _, rfl, pw, _, _, _, rfl, rfl, (fw.mono t2.mono).sq, at_of (j := b + i) e1 (by rw [List.getElem?_map, wrow_get hbi]; rfl), _, rfl, _, rfl, pl, _, _, _, rfl, rfl, (fl.mono t2.mono).sq, at_of (j := b + i) e1 (by rw [List.getElem?_map, lrow_get hbi]; rfl), ⟨(by show 2 ≤ sizeLine; decide), fun t ht => ?_⟩⟩
    obtain ⟨s3, r3⟩ := snoc_tup (K := K) (ds := [.int (wof (cs.take n) (b + i)), .int (lof (cs.take n) (b + i))]) t2.own ht (.cons .int (.cons .int .nil))
    have hx : xs.length = i := by rw [rx.length, List.length_map, partRows, List.length_map, List.length_range]
    refine ⟨xs, by rw [upd_ne (ne_of_none t2.own.head ht)]; exact t2.own.head, by rw [hx]; exact small1000 (by omega), xs ++ [.ref t], t2.trans s3, ?_⟩
    unfold partRows
    rw [List.range_succ, List.map_append, List.map_append]
    exact (rx.mono s3.mono).snoc r3
  · rintro H2 ⟨xs, t2, rx⟩
    have e2 : ((e : Int) - b).toNat = e - b := by omega
    rw [e2] at rx
    refine ⟨D, xs, rfl, .inl ⟨SqL.of t2.own.head, fun l hl => ⟨(by show 4 ≤ sizeLine; decide), fun t ht => ?_⟩⟩⟩
    have g := ((t2.old (o := .tup xs) hl).old (o := .tup [.str "part", .int n, .int b, .ref l]) ht).tail
    refine k _ _ g (.tup upd_same (.cons .str (.cons .int (.cons .int (.cons (.tup ((Mono.new ht) _ _ upd_same trivial) (rx.mono ((Mono.new hl).trans (Mono.new ht)))) .nil)))))
theorem ok_beat (F : Fd K mg "_law_beat" s_beat) (Bm : Blt mg) : Gf P w K mg base 1 "_law_beat" ["_law_rows", "_law_number"] (spBeat K) := by
  refine F.ok sc_beat (fun _ _ _ _ _ _ us hl => match us, hl with | [_, _], _ => rfl) len_of fun qual f cdv A outer s H vs Q E hr h => ?_
  obtain ⟨_, nk, n, cs, v, rfl, hk, hn, hv, k⟩ := h
  obtain ⟨a, xr, rfl, fr, rr⟩ := hv.lst_inv
  obtain ⟨u, hu, ru⟩ := rr.get (rowsD_get (nk := nk) hn)
  obtain ⟨ar, pw, pl, rfl, har, fw, fl⟩ := ru.row_inv
  refine ⟨_, (pss_one (ps_ret (pe_tup (pa_cons pe_str (pa_cons (pv 1) (pa_cons (pe_callTy call_tuple_of rfl Bm.tuple (by decide +kernel) (pa_cons (pe_ix ix_tup (pe_ix ix_list (pv 0) (pv 1) (fun _ _ => rfl)) pe_int (fun _ _ => rfl)) pa_nil)) pa_nil)))))), ?_⟩
  refine ⟨_, rfl, _, rfl, _, rfl, a, xr, _, _, rfl, rfl, fr.sq, at_of (j := n) rfl hu, ar, _, _, _, rfl, rfl, SqT.of har, rfl, pl, _, rfl, .inl ⟨fl.sq, fun l hl => ⟨(by show 3 ≤ sizeLine; decide), fun t ht => ?_⟩⟩⟩
  refine k _ _ (((Grow.refl H).old hl).old ht) (.tup upd_same (.cons .str (.cons .int (.cons (.tup ((Mono.new ht) _ _ upd_same trivial) ?_) .nil))))
  have : ((List.range nk).map fun k => lof (cs.take n) k).map (fun k : Nat => PyData.int k) = (lrow nk (cs.take n)).map PyData.int := by
    rw [lrow, List.map_map, List.map_map]
    rfl
  rw [this]
  exact RpL.of_ints _
end
end Cu

namespace Cu
open PySem PySem.Spec PyProof.Rows L2
/-! enumerate over a tuple -/
theorem newE (t : Addr) (ys : Array Value) :
    Meets (Builtin.«enumerate.__new__» ⟨[.type "enumerate", .ref t], []⟩) (fun _ R z => z.heap.IsTuple t ys ∧
      R (.ok (.ret (.ref (z.heap.push { cls := .type "tuple_iterator", data := .fields #[.ref t, .int 0 0] }).objs.size)))
        { z with heap := (z.heap.push { cls := .type "tuple_iterator", data := .fields #[.ref t, .int 0 0] }).push { cls := .type "enumerate", data := .fields #[.none, .bool false, .ref z.heap.objs.size, rawInt 0, .none, .none] } }) :=
  .of_wp fun P w A R z hz => by
    obtain ⟨h0, g0, d0, k0, os0⟩ := z
    obtain ⟨ht, hR⟩ := hz
    have hsub := sub_enumerate
    have q1 : ∀ {A' : Around} {E : Value → Shared → Prop} {Q : Value → Shared → Prop}, Q (.ref h0.objs.size) ⟨h0.push { cls := .type "tuple_iterator", data := .fields #[.ref t, .int 0 0] }, g0, d0, k0, os0⟩ →
        wpAny (model P w) A' (pyIter (.ref t)) Q E ⟨h0, g0, d0, k0, os0⟩ := fun q => wpAny_pyIter_tuple ht q
    wp_walk using q1
    refine wpAny_stack_any fun stk => wpAny_pure ?_
    split
    · rename_i c _ _ _ _ _
      cases (c == Value.type "enumerate") <;> (wp_walk using q1; exact ⟨_, rfl, hR⟩)
    · wp_walk using q1
      exact ⟨_, rfl, hR⟩
section
variable {P : Program} {w : World} {A : Around} {E : Value → Shared → Prop} {s : Shared}
theorem callE {t : Addr} {ys : Array Value} {Q : Value → Shared → Prop} (ht : s.heap.IsTuple t ys)
    (q : ∀ h2, IsEnum h2 (s.heap.objs.size + 1) s.heap.objs.size 0 .none → h2.IsTupleIter s.heap.objs.size t 0 → h2.objs.size = s.heap.objs.size + 2 →
      (∀ b o, s.heap.get? b = some o → h2.get? b = some o) → Q (.ref (s.heap.objs.size + 1)) { s with heap := h2 }) :
    wpAny (model P w) A (call (.type "enumerate") [.ref t]) Q E s := by
  refine callType_new F.called_enumerate (by decide) (F.typeCall_enumerate_1 _) (F.newCall_enumerate_1 _) (fun o => F.args_object_init_2 o _) F.entry_enumerate_new (newE t ys) ⟨ht, ?_⟩
  have z1 : (s.heap.push { cls := .type "tuple_iterator", data := .fields #[.ref t, .int 0 0] }).objs.size = s.heap.objs.size + 1 := Heap.size_push ..
  show _ ∧ _
  rw [z1]
  have e1 : IsEnum ((s.heap.push { cls := .type "tuple_iterator", data := .fields #[.ref t, .int 0 0] }).push
      { cls := .type "enumerate", data := .fields #[.none, .bool false, .ref s.heap.objs.size, rawInt 0, .none, .none] }) (s.heap.objs.size + 1) s.heap.objs.size 0 .none := by
    have := Heap.get?_push_size (s.heap.push { cls := .type "tuple_iterator", data := .fields #[.ref t, .int 0 0] })
      (o := { cls := .type "enumerate", data := .fields #[.none, .bool false, .ref s.heap.objs.size, rawInt 0, .none, .none] }) rfl
    rw [z1] at this
    exact this
  exact ⟨⟨_, e1, rfl⟩, q _ e1 ⟨_, Heap.get?_push_of_some _ (Heap.get?_push_size _ rfl), rfl, rfl⟩ (by rw [Heap.size_push, z1]) fun b o x => Heap.get?_push_of_some _ (Heap.get?_push_of_some _ x)⟩
end
/-- the tuple at a, its items in new pairs with their places -/
def Iet (K : PySem.W.Frag) (a : Addr) : It :=
  ⟨fun i H => ∃ (ys : List V) (y : V), SqT K H a ys ∧ ys[i]? = some y,
   fun i H v H2 => ∃ p y, v = .ref p ∧ H p = none ∧ H2 = upd H p (.tup [.int (i : Nat), y]) ∧ ∀ ys, SqT K H a ys → ys[i]? = some y,
   fun i H => ∃ ys : List V, SqT K H a ys ∧ ys.length = i⟩
theorem turnE {P : Program} {w : World} {K : PySem.W.Frag} {elts : List Expr} {kk : Nat} {tp : Pos} (a e it : Addr) :
    Turn P w K (.Tuple elts kk tp) (Iet K a) [e, it] e (fun i h => (∃ old, IsEnum h e it ((i : Nat) : Int) old) ∧ h.IsTupleIter it a i ∧ e ≠ it ∧ a ≠ e ∧ a ≠ it) where
  mem := by simp
  obj := fun i h st b hb => by
    obtain ⟨⟨old, he⟩, ⟨o, ho, hc, hd⟩, _⟩ := st
    rcases (show b = e ∨ b = it by simpa using hb) with z | z
    · rw [z]
      exact ⟨_, he, fun v q => nomatch q⟩
    · rw [z]
      exact ⟨o, ho, fun v q => by rw [hd] at q; cases q⟩
  keep := fun i h h2 st kp => by
    obtain ⟨⟨old, he⟩, hi, hne⟩ := st
    exact ⟨⟨old, kp e (by simp) _ he⟩, hi.at fun o q => kp it (by simp) o q, hne⟩
  item := by
    intro X hP hw hK hc i pins s σ H E I hf st hg
    subst hP hw hK
    obtain ⟨⟨old, he⟩, hit, hne, hae, hai⟩ := st
    obtain ⟨ys, y, hq, hy⟩ := hg
    obtain ⟨its, rv, p, hz⟩ := I.tuple hq
    obtain ⟨u, hu, ru⟩ := rv.get hy
    have hel : e < s.heap.objs.size := Heap.lt_size he
    have hil : it < s.heap.objs.size := by
      obtain ⟨_, q, _⟩ := hit
      exact Heap.lt_size q
    have hlt : i < its.toArray.size := by
      have := (List.getElem?_eq_some_iff.mp hu).1
      simpa using this
    have pT : s.heap.IsTuple a its.toArray := let ⟨o, ho, hc, n, hd⟩ := p; ⟨o, ho, hc, n, hd⟩
    refine wpAny_pyNext_enum_itemD (Draws.tuple (prog := X.prog) (w := X.w) (A := X.A.in1) (I.ok.hd hc) it a hai its.toArray) he ⟨hit, pT⟩ hlt hne (by simp [hne, Ne.symm hae]) fun x h2 tk hx ho hit2 hT hsz hk => ?_
    have hxu : x = u := by
      have q : its.toArray[i]? = some x := hx
      rw [List.getElem?_toArray, hu] at q
      exact (Option.some.inj q).symm
    subst hxu
    refine ⟨_, rfl, wpAny_letOwnedTupleGo_enum (s := { s with heap := h2, toks := tk + 1 }) ho fun h3 he3 sb => ?_⟩
    have hT3 : h3.get? s.heap.objs.size = some { cls := .type "tuple", data := .seq #[.int i tk, x] } := (sb.2 _ (Nat.ne_of_gt hel)).trans hT
    have new : ObjOk X.prog X.w (upd H s.heap.objs.size (.tup [.int (i : Nat), y])) h3 s.heap.objs.size (.tup [.int (i : Nat), y]) :=
      ⟨by show 2 ≤ sizeLine; decide, [.int i tk, x], .cons ⟨_, rfl⟩ (.cons ru .nil), ⟨_, hT3, rfl, _, rfl⟩⟩
    have I1 : Inv X pins σ (upd H s.heap.objs.size (.tup [.int (i : Nat), y])) { s with heap := h3, toks := tk + 1 } :=
      I.turnedNew (ch := [e, it]) (fun b ob hb q => (sb.2 b (fun z => hb (by simp [z]))).trans (hk b ob (fun z => hb (by simp [z])) (fun z => hb (by simp [z])) q)) hf (Nat.le_refl _) new
    refine ⟨.ref s.heap.objs.size, _, I1, rfl, ⟨_, y, rfl, I.hok.fresh (Nat.le_refl _), rfl, fun zs hzs => by rw [I.tuple_inj hzs hq]; exact hy⟩, ⟨⟨x, ?_⟩, hit2.1.at fun o q => (sb.2 it (Ne.symm hne)).trans q, hne, hae, hai⟩, fun b hb => ?_⟩
    · have e1 : ((i + 1 : Nat) : Int) = (i : Int) + 1 := by omega
      rw [e1]
      exact he3
    · have hb2 : b < s.heap.objs.size := by
        rcases (show b = e ∨ b = it by simpa using hb) with z | z
        · rw [z]
          exact hel
        · rw [z]
          exact hil
      rw [upd_ne (Nat.ne_of_lt hb2)]
      exact (hf b hb).1
  done := by
    intro X hP hw hK hc i pins s σ H E I hf st hg
    subst hP hw hK
    obtain ⟨⟨old, he⟩, hit, hne, hae, hai⟩ := st
    obtain ⟨ys, hq, hy⟩ := hg
    obtain ⟨its, rv, p, hz⟩ := I.tuple hq
    obtain ⟨f0, f1, f2, f3, f4, f5⟩ := hf it (by simp)
    have pT : s.heap.IsTuple a its.toArray := let ⟨o, ho, hc, n, hd⟩ := p; ⟨o, ho, hc, n, hd⟩
    have hn : its.toArray.size = i := by
      have := rv.length
      simp
      omega
    exact wpAny_pyNext_enum_endD (Draws.tuple (prog := X.prog) (w := X.w) (A := X.A.in1) (I.ok.hd hc) it a hai its.toArray) he ⟨by rw [hn]; exact hit, pT⟩ fun h2 eb => ⟨rfl, I.turned (t' := s.toks) (fun b o hb q => eb b o hb q) f0 f1 f3 f4 f5⟩
  self := fun A i s Q E st h => let ⟨⟨_, he⟩, _⟩ := st; wpAny_pyIter_enum he h
def iEnumT (K : PySem.W.Frag) (ta : TA) : TI := fun σ H R => ta σ H fun vs H1 => ∃ a ys, vs = [.ref a] ∧ SqT K H1 a ys ∧ R (Iet K a) H1
theorem pi_enumT {X : Cx} {e : Expr} {ta : TA} {p pos tp : Pos} {elts : List Expr} {kk : Nat} (hg : Gl X "enumerate") (hm : X.mg "enumerate" = none) (ha : PA X [e] ta) (hs : starEach [e] X.env = [(false, eval e X.env)] := by rfl) :
    PI X (.Tuple elts kk tp) (.Call (.Name "enumerate" p) [e] [] pos) (iEnumT X.K ta) := by
  refine ⟨fun pins s σ H R I h => ?_⟩
  refine Call_ (ld_blt I hg hm boot_enumerate (PyProof.Rows.callWith_type1 (thn (ha.run pos pins s σ H _ I h) fun us s1 ⟨vs, H1, I1, r1, q1⟩ => ?_) hs rfl))
  obtain ⟨a, ys, ex, hq, q⟩ := q1
  subst ex
  cases r1 with
  | cons r rr =>
    cases rr
    cases r
    obtain ⟨its, rv, p', hz⟩ := I1.tuple hq
    have pT : s1.heap.IsTuple a its.toArray := let ⟨o, ho, hc, n, hd⟩ := p'; ⟨o, ho, hc, n, hd⟩
    have hal : a < s1.heap.objs.size := let ⟨_, ho, _⟩ := p'; Heap.lt_size ho
    refine callE pT fun h2 he hit hsz hk => wpAny_pyIter_enum he ?_
    have I2 : Inv X pins σ H1 { s1 with heap := h2 } := I1.kept (t' := s1.toks) hk
    refine ⟨s1.heap.objs.size + 1, [s1.heap.objs.size + 1, s1.heap.objs.size], _, _, H1, rfl, I2, turnE a (s1.heap.objs.size + 1) s1.heap.objs.size, ⟨⟨.none, he⟩, hit, Nat.succ_ne_self _, Nat.ne_of_lt (Nat.lt_succ_of_lt hal), Nat.ne_of_lt hal⟩, fun b hb => ?_, q⟩
    have hle : s1.heap.objs.size ≤ b := by
      rcases (show b = s1.heap.objs.size + 1 ∨ b = s1.heap.objs.size by simpa using hb) with z | z
      · rw [z]
        exact Nat.le_add_right _ _
      · rw [z]
        exact Nat.le_refl _
    exact I1.fpOk hle (I1.hok.fresh hle)
theorem walk_enumT {K : PySem.W.Frag} {a : Addr} {xs : List V} : Walk (Iet K a) xs.length (fun H => SqT K H a xs) (YPair (fun i => some (.int (i : Nat))) (fun i => xs[i]?)) := by
  refine ⟨fun i _ hi q => ⟨xs, xs[i], q, by simp [hi]⟩, fun _ q => ⟨xs, q, rfl⟩, fun i H v H2 _ q y => ?_⟩
  obtain ⟨p, z, h1, h2, h3, h4⟩ := y
  exact ⟨p, .int (i : Nat), z, h1, h2, h3, rfl, h4 xs q⟩
end Cu

namespace Cu
open PySem PySem.Spec PyProof.Rows L2
/-! a hearer, key by key -/
/-- a change put aside -/
structure As where
  n : Nat
  worth : Int
  ahead : Nat
structure HK where
  worth : Int
  since : Nat
  upto : Int
  aside : List As
def HK.ini : HK := ⟨0, 0, -1, []⟩
def HK.done (h : HK) (n : Nat) (set : Bool) (w : Int) : HK := { h with worth := if set then w else h.worth + w, since := n, upto := n }
def asN (as : List As) : List Int := as.map fun a => (a.n : Int)
def srt (ns : List Int) : List Int := ns.mergeSort fun a b => decide (a ≤ b)
def findA (as : List As) (n : Int) : Option As := as.find? fun a => decide ((a.n : Int) = n)
def dropA (as : List As) (n : Int) : List As := as.filter fun a => decide ((a.n : Int) ≠ n)
def putA (as : List As) (a : As) : List As := if (as.any fun x => decide (x.n = a.n)) = true then as.map fun x => if x.n = a.n then a else x else as ++ [a]
def HK.fstep (st : HK × List Int) (n : Int) : HK × List Int :=
  match findA st.1.aside n with
  | none => st
  | some a => if n ≤ st.1.upto then ({ st.1 with aside := dropA st.1.aside n }, st.2)
    else if (a.ahead : Int) ≤ st.1.upto then (({ st.1 with aside := dropA st.1.aside n } : HK).done a.n false a.worth, st.2 ++ [n])
    else st
def HK.free (h : HK) : HK × List Int := (srt (asN h.aside)).foldl HK.fstep (h, [])
def HK.chg (h : HK) (n : Nat) (c : Ch) (ahead : Nat) : HK × List Int :=
  if (n : Int) ≤ h.upto then (h, []) else if c.set = false ∧ h.upto < (ahead : Int) then ({ h with aside := putA h.aside ⟨n, c.worth, ahead⟩ }, [])
  else (((h.done n c.set c.worth).free).1, (n : Int) :: ((h.done n c.set c.worth).free).2)
def HK.row (h : HK) (n : Nat) (w : Int) (last : Nat) : HK × List Int := if h.upto < (n : Int) then ({ h with worth := w, since := last, upto := n } : HK).free else (h, [])
def HK.beat (h : HK) (n last : Nat) : HK := if (last : Int) ≤ h.upto ∧ h.upto < (n : Int) then { h with upto := n } else h
def hearK (k : Nat) (h : HK) : Letter → HK × List Int
  | .change n c ahead => if c.key = k then h.chg n c ahead else (h, [])
  | .part n b rows => if b ≤ k then (match rows[k - b]? with | some r => h.row n r.1 r.2 | none => (h, [])) else (h, [])
  | .beat n lasts => match lasts[k]? with | some l => (h.beat n l, []) | none => (h, [])
def hear (hs : List HK) (l : Letter) : List HK := hs.mapIdx fun k h => (hearK k h l).1
def heard (hs : List HK) (l : Letter) : List Int := (hs.mapIdx fun k h => (hearK k h l).2).flatten
theorem srt_eq {ns ms : List Int} (hp : ms.Perm ns) (hs : ms.Pairwise (· ≤ ·)) : ms = srt ns := by
  refine PySem.W.ksm_same (hp.trans (List.mergeSort_perm ns _).symm) hs ?_
  have := List.pairwise_mergeSort (le := fun a b : Int => decide (a ≤ b)) (fun a b c h1 h2 => by simp at h1 h2 ⊢; omega) (fun a b => by simp; omega) ns
  exact this.imp fun h => by simpa using h
theorem hear_len (hs : List HK) (l : Letter) : (hear hs l).length = hs.length := by simp [hear]

/-! where a hearer lies -/
structure HA where
  p : Addr
  dx : Addr
  l1 : Addr
  l2 : Addr
  l3 : Addr
  l4 : Addr
  ds : List Addr
def hF (A : HA) : List (Str × V) := [("worth", .ref A.l1), ("since", .ref A.l2), ("upto", .ref A.l3), ("aside", .ref A.l4)]
def hObj (C : Addr) (A : HA) (hs : List HK) (kv : List (List (Key × V))) : Lg :=
  (A.p, .ins C A.dx (hF A)) :: (A.l1, .lst (hs.map fun h => .int h.worth)) :: (A.l2, .lst (hs.map fun h => .int h.since)) :: (A.l3, .lst (hs.map fun h => .int h.upto)) ::
    (A.l4, .lst (A.ds.map V.ref)) :: List.zipWith (fun d k => (d, HO.dK k)) A.ds kv
def asL (k : Nat) (a : As) : Letter := .change a.n ⟨k, false, a.worth⟩ a.ahead
def AsOk (K : PySem.W.Frag) (H : Hp) (k : Nat) : List As → List (Key × V) → Prop
  | [], kvs => kvs = []
  | a :: as, kvs => ∃ v r, kvs = (Sum.inl (a.n : Int), v) :: r ∧ Rp K H (asL k a).enc v ∧ AsOk K H k as r
section
variable {K : PySem.W.Frag} {H H' : Hp} {k : Nat}
theorem AsOk.mono (m : Mono H H') : ∀ {as : List As} {kvs : List (Key × V)}, AsOk K H k as kvs → AsOk K H' k as kvs
  | [], _, h => h
  | a :: as, _, ⟨v, r, e, h1, h2⟩ => ⟨v, r, e, h1.mono m, AsOk.mono m h2⟩
theorem AsOk.keys : ∀ {as : List As} {kvs : List (Key × V)}, AsOk K H k as kvs → kvs.map (·.1) = (asN as).map Sum.inl
  | [], _, h => by
    cases h
    rfl
  | a :: as, _, ⟨v, r, e, h1, h2⟩ => by
    subst e
    show Sum.inl (a.n : Int) :: r.map (·.1) = _
    rw [h2.keys]
    rfl
theorem AsOk.len {as : List As} {kvs : List (Key × V)} (h : AsOk K H k as kvs) : kvs.length = as.length := by
  have := congrArg List.length h.keys
  simpa [asN] using this
theorem AsOk.find : ∀ {as : List As} {kvs : List (Key × V)} {n : Int} {a : As}, AsOk K H k as kvs → findA as n = some a → ∃ v, valV kvs (Sum.inl n) = some v ∧ Rp K H (asL k a).enc v
  | [], _, _, _, _, e => by cases e
  | b :: as, _, n, a, ⟨v, r, e, h1, h2⟩, f => by
    subst e
    by_cases hb : (b.n : Int) = n
    · have : findA (b :: as) n = some b := by simp [findA, hb]
      rw [this] at f
      cases f
      exact ⟨v, valV_pos (by rw [hb]), h1⟩
    · have : findA (b :: as) n = findA as n := by simp [findA, hb]
      rw [this] at f
      obtain ⟨u, hu, ru⟩ := h2.find f
      exact ⟨u, by rw [valV_neg (fun q => hb (Sum.inl.inj q))]; exact hu, ru⟩
theorem AsOk.drop : ∀ {as : List As} {kvs : List (Key × V)} (n : Int), AsOk K H k as kvs → AsOk K H k (dropA as n) (dropK kvs (Sum.inl n))
  | [], _, _, h => by
    cases h
    rfl
  | b :: as, _, n, ⟨v, r, e, h1, h2⟩ => by
    subst e
    have ih := AsOk.drop n h2
    by_cases hb : (b.n : Int) = n
    · have : dropA (b :: as) n = dropA as n := by simp [dropA, hb]
      rw [this, dropK_pos (by rw [hb])]
      exact ih
    · have : dropA (b :: as) n = b :: dropA as n := by simp [dropA, hb]
      rw [this, dropK_neg (fun q => hb (Sum.inl.inj q))]
      exact ⟨v, _, rfl, h1, ih⟩
theorem AsOk.any : ∀ {as : List As} {kvs : List (Key × V)} (n : Nat), AsOk K H k as kvs → (kvs.any fun kv => decide (kv.1 = Sum.inl (n : Int))) = as.any fun x => decide (x.n = n)
  | [], _, _, h => by
    cases h
    rfl
  | b :: as, _, n, ⟨v, r, e, h1, h2⟩ => by
    subst e
    rw [List.any_cons, List.any_cons, h2.any]
    congr 1
    by_cases hb : b.n = n <;> simp [hb]
    intro q
    exact hb (by omega)
theorem AsOk.map : ∀ {as : List As} {kvs : List (Key × V)} (a : As) (v : V), AsOk K H k as kvs → Rp K H (asL k a).enc v →
    AsOk K H k (as.map fun x => if x.n = a.n then a else x) (kvs.map fun kv => if kv.1 = Sum.inl (a.n : Int) then (kv.1, v) else kv)
  | [], _, _, _, h, _ => by
    cases h
    rfl
  | b :: as, _, a, v, ⟨u, r, e, h1, h2⟩, hv => by
    subst e
    have ih := AsOk.map a v h2 hv
    by_cases hb : b.n = a.n
    · simp only [List.map_cons, hb, if_pos]
      exact ⟨v, _, rfl, hv, ih⟩
    · have hb' : ¬ ((Sum.inl (b.n : Int) : Key) = Sum.inl (a.n : Int)) := fun q => hb (by have := Sum.inl.inj q; omega)
      simp only [List.map_cons, hb, if_neg hb', if_false]
      exact ⟨u, _, rfl, h1, ih⟩
theorem AsOk.append : ∀ {as bs : List As} {kvs kws : List (Key × V)}, AsOk K H k as kvs → AsOk K H k bs kws → AsOk K H k (as ++ bs) (kvs ++ kws)
  | [], _, _, _, h, g => by
    cases h
    exact g
  | _ :: _, _, _, _, ⟨v, r, e, h1, h2⟩, g => by
    subst e
    exact ⟨v, _, rfl, h1, h2.append g⟩
theorem AsOk.put {as : List As} {kvs : List (Key × V)} {a : As} {v : V} (h : AsOk K H k as kvs) (hv : Rp K H (asL k a).enc v) : AsOk K H k (putA as a) (putK kvs (Sum.inl (a.n : Int)) v) := by
  unfold putA putK
  rw [h.any]
  split
  · exact h.map a v hv
  · exact h.append ⟨v, [], rfl, hv, rfl⟩
end

/-- the objects at c are a hearer's that stands so -/
structure HR (K : PySem.W.Frag) (C : Addr) (A : HA) (hs : List HK) (H : Hp) (c : Lg) : Prop where
  ex : ∃ kv, c = hObj C A hs kv ∧ A.ds.length = hs.length ∧ kv.length = hs.length ∧ ∀ (k : Nat) (h : HK) (kvs : List (Key × V)), hs[k]? = some h → kv[k]? = some kvs → AsOk K H k h.aside kvs
theorem Tr.mid {H : Hp} {pre post : Lg} {a : Addr} {o o' : HO} (h : Has H (pre ++ (a, o) :: post)) (n : ¬ Imm o') : Tr H (pre ++ (a, o) :: post) (upd H a o') (pre ++ (a, o') :: post) := by
  refine ⟨Mono.put (h.mem (by simp)) (h.at_ (a, o) (by simp)).2, fun R hR => ?_⟩
  rw [List.append_assoc, List.cons_append] at hR ⊢
  exact ((hR.perm List.perm_middle).put n).perm List.perm_middle.symm
section
variable {K : PySem.W.Frag} {C : Addr} {A : HA} {hs : List HK} {H H' : Hp} {c : Lg} {k : Nat} {h : HK}
theorem HR.mono (r : HR K C A hs H c) (m : Mono H H') : HR K C A hs H' c := by
  obtain ⟨kv, e, l1, l2, q⟩ := r.ex
  exact ⟨kv, e, l1, l2, fun k h kvs e1 e2 => (q k h kvs e1 e2).mono m⟩
theorem HR.at_p (r : HR K C A hs H c) (h : Has H c) : H A.p = some (.ins C A.dx (hF A)) := by
  obtain ⟨kv, rfl, _⟩ := r.ex
  exact h.mem (by simp [hObj])
theorem HR.at1 (r : HR K C A hs H c) (h : Has H c) : H A.l1 = some (.lst (hs.map fun h => .int h.worth)) := by
  obtain ⟨kv, rfl, _⟩ := r.ex
  exact h.mem (by simp [hObj])
theorem HR.at2 (r : HR K C A hs H c) (h : Has H c) : H A.l2 = some (.lst (hs.map fun h => .int h.since)) := by
  obtain ⟨kv, rfl, _⟩ := r.ex
  exact h.mem (by simp [hObj])
theorem HR.at3 (r : HR K C A hs H c) (h : Has H c) : H A.l3 = some (.lst (hs.map fun h => .int h.upto)) := by
  obtain ⟨kv, rfl, _⟩ := r.ex
  exact h.mem (by simp [hObj])
theorem HR.at4 (r : HR K C A hs H c) (h : Has H c) : H A.l4 = some (.lst (A.ds.map V.ref)) := by
  obtain ⟨kv, rfl, _⟩ := r.ex
  exact h.mem (by simp [hObj])
theorem HR.dict (r : HR K C A hs H c) (hh : Has H c) (e : hs[k]? = some h) : ∃ d kvs, A.ds[k]? = some d ∧ H d = some (.dK kvs) ∧ AsOk K H k h.aside kvs := by
  obtain ⟨kv, rfl, l1, l2, q⟩ := r.ex
  have hk := (List.getElem?_eq_some_iff.mp e).1
  obtain ⟨d, hd⟩ : ∃ d, A.ds[k]? = some d := ⟨A.ds[k], List.getElem?_eq_getElem (by omega)⟩
  obtain ⟨kvs, hkv⟩ : ∃ kvs, kv[k]? = some kvs := ⟨kv[k], List.getElem?_eq_getElem (by omega)⟩
  refine ⟨d, kvs, hd, hh.mem ?_, q k h kvs e hkv⟩
  have : (List.zipWith (fun d k => (d, HO.dK k)) A.ds kv)[k]? = some (d, HO.dK kvs) := by rw [List.getElem?_zipWith, hd, hkv]
  have := List.mem_of_getElem? this
  simp [hObj, this]
theorem map_set_same {α β : Type} {f : α → β} {xs : List α} {k : Nat} {x y : α} (e : xs[k]? = some x) (h : f y = f x) : (xs.set k y).map f = xs.map f := by
  rw [List.map_set, h]
  apply List.ext_getElem?
  intro i
  by_cases hi : k = i
  · subst hi
    rw [List.getElem?_set_self (by rw [List.length_map]; exact (List.getElem?_eq_some_iff.mp e).1), List.getElem?_map, e]
    rfl
  · rw [List.getElem?_set_ne hi]
theorem hs_set {hs : List HK} {k : Nat} {h g : HK} (e : hs[k]? = some h) (ea : g.aside = h.aside) {kv : List (List (Key × V))} (q : ∀ (k : Nat) (h : HK) (kvs : List (Key × V)), hs[k]? = some h → kv[k]? = some kvs → AsOk K H k h.aside kvs) :
    ∀ (j : Nat) (h : HK) (kvs : List (Key × V)), (hs.set k g)[j]? = some h → kv[j]? = some kvs → AsOk K H j h.aside kvs := fun j h' kvs e1 e2 => by
  by_cases hj : k = j
  · subst hj
    rw [List.getElem?_set_self (List.getElem?_eq_some_iff.mp e).1] at e1
    cases e1
    rw [ea]
    exact q k h kvs e e2
  · rw [List.getElem?_set_ne hj] at e1
    exact q j h' kvs e1 e2
/-- the three lists, written at a key -/
theorem HR.set1 (r : HR K C A hs H c) (hh : Has H c) (e : hs[k]? = some h) (z : Int) :
    ∃ c', HR K C A (hs.set k { h with worth := z }) (upd H A.l1 (.lst ((hs.map fun h => V.int h.worth).set k (.int z)))) c' ∧ Tr H c (upd H A.l1 (.lst ((hs.map fun h => V.int h.worth).set k (.int z)))) c' := by
  obtain ⟨kv, rfl, l1, l2, q⟩ := r.ex
  have t := Tr.mid (pre := [(A.p, .ins C A.dx (hF A))]) (o' := .lst ((hs.map fun h => V.int h.worth).set k (.int z))) hh nl
  refine ⟨hObj C A (hs.set k { h with worth := z }) kv, ⟨kv, rfl, by rw [List.length_set]; exact l1, by rw [List.length_set]; exact l2, hs_set (g := { h with worth := z }) e rfl fun k h kvs e1 e2 => (q k h kvs e1 e2).mono t.mono⟩, ?_⟩
  unfold hObj
  rw [List.map_set, map_set_same (f := fun h : HK => V.int h.since) (y := { h with worth := z }) e rfl, map_set_same (f := fun h : HK => V.int h.upto) (y := { h with worth := z }) e rfl]
  exact t
theorem HR.set2 (r : HR K C A hs H c) (hh : Has H c) (e : hs[k]? = some h) (z : Nat) :
    ∃ c', HR K C A (hs.set k { h with since := z }) (upd H A.l2 (.lst ((hs.map fun h => V.int h.since).set k (.int z)))) c' ∧ Tr H c (upd H A.l2 (.lst ((hs.map fun h => V.int h.since).set k (.int z)))) c' := by
  obtain ⟨kv, rfl, l1, l2, q⟩ := r.ex
  have t := Tr.mid (pre := [(A.p, .ins C A.dx (hF A)), (A.l1, .lst (hs.map fun h => .int h.worth))]) (o' := .lst ((hs.map fun h => V.int h.since).set k (.int z))) hh nl
  refine ⟨hObj C A (hs.set k { h with since := z }) kv, ⟨kv, rfl, by rw [List.length_set]; exact l1, by rw [List.length_set]; exact l2, hs_set (g := { h with since := z }) e rfl fun k h kvs e1 e2 => (q k h kvs e1 e2).mono t.mono⟩, ?_⟩
  unfold hObj
  rw [List.map_set (f := fun h : HK => V.int h.since), map_set_same (f := fun h : HK => V.int h.worth) (y := { h with since := z }) e rfl, map_set_same (f := fun h : HK => V.int h.upto) (y := { h with since := z }) e rfl]
  exact t
theorem HR.set3 (r : HR K C A hs H c) (hh : Has H c) (e : hs[k]? = some h) (z : Int) :
    ∃ c', HR K C A (hs.set k { h with upto := z }) (upd H A.l3 (.lst ((hs.map fun h => V.int h.upto).set k (.int z)))) c' ∧ Tr H c (upd H A.l3 (.lst ((hs.map fun h => V.int h.upto).set k (.int z)))) c' := by
  obtain ⟨kv, rfl, l1, l2, q⟩ := r.ex
  have t := Tr.mid (pre := [(A.p, .ins C A.dx (hF A)), (A.l1, .lst (hs.map fun h => .int h.worth)), (A.l2, .lst (hs.map fun h => .int h.since))]) (o' := .lst ((hs.map fun h => V.int h.upto).set k (.int z))) hh nl
  refine ⟨hObj C A (hs.set k { h with upto := z }) kv, ⟨kv, rfl, by rw [List.length_set]; exact l1, by rw [List.length_set]; exact l2, hs_set (g := { h with upto := z }) e rfl fun k h kvs e1 e2 => (q k h kvs e1 e2).mono t.mono⟩, ?_⟩
  unfold hObj
  rw [List.map_set (f := fun h : HK => V.int h.upto), map_set_same (f := fun h : HK => V.int h.worth) (y := { h with upto := z }) e rfl, map_set_same (f := fun h : HK => V.int h.since) (y := { h with upto := z }) e rfl]
  exact t
theorem zip_split {ds : List Addr} {kv : List (List (Key × V))} {k : Nat} {d : Addr} {x : List (Key × V)} (h1 : ds[k]? = some d) (h2 : kv[k]? = some x) :
    ∃ pre post, List.zipWith (fun d k => (d, HO.dK k)) ds kv = pre ++ (d, HO.dK x) :: post ∧ ∀ y, List.zipWith (fun d k => (d, HO.dK k)) ds (kv.set k y) = pre ++ (d, HO.dK y) :: post := by
  induction k generalizing ds kv with
  | zero =>
    cases ds with
    | nil => simp at h1
    | cons d' ds =>
      cases kv with
      | nil => simp at h2
      | cons x' kv =>
        simp at h1 h2
        subst h1 h2
        exact ⟨[], _, rfl, fun y => rfl⟩
  | succ k ih =>
    cases ds with
    | nil => simp at h1
    | cons d' ds =>
      cases kv with
      | nil => simp at h2
      | cons x' kv =>
        obtain ⟨pre, post, e1, e2⟩ := ih (ds := ds) (kv := kv) (by simpa using h1) (by simpa using h2)
        refine ⟨(d', HO.dK x') :: pre, post, ?_, fun y => ?_⟩
        · rw [List.zipWith_cons_cons, e1]
          rfl
        · rw [List.set_cons_succ, List.zipWith_cons_cons, e2]
          rfl
/-- a key's dict, written -/
theorem HR.set4 (r : HR K C A hs H c) (hh : Has H c) (e : hs[k]? = some h) {d : Addr} (ed : A.ds[k]? = some d) {as : List As} {kvs : List (Key × V)} (ok : AsOk K H k as kvs) :
    ∃ c', HR K C A (hs.set k { h with aside := as }) (upd H d (.dK kvs)) c' ∧ Tr H c (upd H d (.dK kvs)) c' := by
  obtain ⟨kv, rfl, l1, l2, q⟩ := r.ex
  have hk := (List.getElem?_eq_some_iff.mp e).1
  obtain ⟨x, hx⟩ : ∃ x, kv[k]? = some x := ⟨kv[k], List.getElem?_eq_getElem (by omega)⟩
  obtain ⟨pre, post, e1, e2⟩ := zip_split ed hx
  have t : Tr H (hObj C A hs kv) (upd H d (.dK kvs)) (hObj C A (hs.set k { h with aside := as }) (kv.set k kvs)) := by
    unfold hObj at hh ⊢
    rw [map_set_same (f := fun h : HK => V.int h.worth) (y := { h with aside := as }) e rfl, map_set_same (f := fun h : HK => V.int h.since) (y := { h with aside := as }) e rfl, map_set_same (f := fun h : HK => V.int h.upto) (y := { h with aside := as }) e rfl, e1, e2]
    rw [e1] at hh
    have := Tr.mid (pre := (A.p, .ins C A.dx (hF A)) :: (A.l1, .lst (hs.map fun h => .int h.worth)) :: (A.l2, .lst (hs.map fun h => .int h.since)) :: (A.l3, .lst (hs.map fun h => .int h.upto)) :: (A.l4, .lst (A.ds.map V.ref)) :: pre) (o' := .dK kvs) hh ndk
    exact this
  refine ⟨_, ⟨kv.set k kvs, rfl, by rw [List.length_set]; exact l1, by rw [List.length_set, List.length_set]; exact l2, fun j h' kw e3 e4 => ?_⟩, t⟩
  by_cases hj : k = j
  · subst hj
    rw [List.getElem?_set_self hk] at e3
    rw [List.getElem?_set_self (by omega)] at e4
    cases e3
    cases e4
    exact ok.mono t.mono
  · rw [List.getElem?_set_ne hj] at e3 e4
    exact (q j h' kw e3 e4).mono t.mono
end
/-- what the walk asks of the class -/
structure CHr (K : PySem.W.Frag) (C : Addr) : Prop where
  cl : Cls K C
  n1 : NoAttr K C "worth"
  n2 : NoAttr K C "since"
  n3 : NoAttr K C "upto"
  n4 : NoAttr K C "aside"
theorem hF1 (A : HA) : (hF A).lookup ("worth" : Str) = some (.ref A.l1) := by rfl
theorem hF2 (A : HA) : (hF A).lookup ("since" : Str) = some (.ref A.l2) := by rfl
theorem hF3 (A : HA) : (hF A).lookup ("upto" : Str) = some (.ref A.l3) := by rfl
theorem hF4 (A : HA) : (hF A).lookup ("aside" : Str) = some (.ref A.l4) := by rfl
theorem ixN_nat {n k : Nat} (h : k < n) : ixN n (k : Int) = some k := by
  unfold ixN
  rw [if_pos (by omega), if_pos (by omega), Int.toNat_natCast]
end Cu

namespace Cu
open PySem PySem.Spec PyProof.Rows L2
abbrev s_Hearer_init : Stmt := (inClass (top 6) 0)
theorem sc_Hearer_init : FnScope ["self", "keys", "key"] ["self", "keys"] (defScope s_Hearer_init) := ⟨rfl, rfl, rfl, by decide +kernel, rfl, by decide +kernel, by decide +kernel⟩

abbrev s_Hearer_known : Stmt := (inClass (top 6) 1)
theorem sc_Hearer_known : FnScope ["self"] ["self"] (defScope s_Hearer_known) := ⟨rfl, rfl, rfl, by decide +kernel, rfl, by decide +kernel, by decide +kernel⟩

abbrev s_Hearer_held : Stmt := (inClass (top 6) 2)
theorem sc_Hearer_held : FnScope ["self", "found", "some"] ["self"] (defScope s_Hearer_held) := ⟨rfl, rfl, rfl, by decide +kernel, rfl, by decide +kernel, by decide +kernel⟩

abbrev s_Hearer_look : Stmt := (inClass (top 6) 3)
theorem sc_Hearer_look : FnScope ["self", "key"] ["self", "key"] (defScope s_Hearer_look) := ⟨rfl, rfl, rfl, by decide +kernel, rfl, by decide +kernel, by decide +kernel⟩

abbrev s_Hearer_whole : Stmt := (inClass (top 6) 4)
theorem sc_Hearer_whole : FnScope ["self", "number"] ["self"] (defScope s_Hearer_whole) := ⟨rfl, rfl, rfl, by decide +kernel, rfl, by decide +kernel, by decide +kernel⟩

theorem iteP {c A B : Prop} [Decidable c] (hc : c) (h : A) : if c then A else B := by
  rw [if_pos hc]
  exact h
theorem iteM {c A B : Prop} [Decidable c] (hc : ¬ c) (h : B) : if c then A else B := by
  rw [if_neg hc]
  exact h
theorem Has.one {H : Hp} {a : Addr} {o : HO} (h : H a = some o) (n : ¬ Imm o) : Has H [(a, o)] := ⟨by simp, fun p hp => by
  rw [List.mem_singleton] at hp
  subst hp
  exact ⟨h, n⟩⟩
theorem nins {C dx : Addr} {fs : List (Str × V)} : ¬ Imm (.ins C dx fs) := fun h => h
/-- a list of the same value, so many as a name says -/
theorem rd_const {σ : L2.St} {H : Hp} {Q : VK} {i j nk : Nat} {te : TE} {v : V} {vs : List Nat} (h1 : σ[i]? = some (some (.int nk))) (hk : nk ≤ 8) (hw : ∀ x, wipe ((wipe σ vs).set j (some x)) vs = wipe σ vs)
    (he : ∀ (σ1 : L2.St) (H1 : Hp) (Q1 : VK), Q1 v H1 → te σ1 H1 Q1) (q : ∀ p H', Tr H [] H' [(p, .lst (List.replicate nk v))] → Q (.ref p) H') :
    tI (tLc (iRng1 (tCons (tVar i) tNil)) (gName j) tYes te vs) σ H Q := by
  refine rd_I ⟨_, h1, _, rfl, by omega, by omega, fun D hD => ?_⟩
  refine lc_range (lo := 0) (n := (nk : Int).toNat) (fun m H2 => Tr H [] H2 [(D, .lst (List.replicate m v))]) ((Tr.refl H []).new hD nl) (fun m H2 hm t => ⟨hw _, he _ _ _ ⟨_, t.own.head, ?_, ?_⟩⟩) fun H2 t => q D H2 (by rw [Int.toNat_natCast] at t; exact t)
  · rw [List.length_replicate]
    exact small1000 (by omega)
  · rw [← List.replicate_succ']
    exact t.put .nil nl
def spHinit (K : PySem.W.Frag) (C : Addr) : Sp := fun vs H Q _ => vs.length = 2 ∧ ∃ (p dx : Addr) (nk : Nat), vs = [.ref p, .int nk] ∧ 0 < nk ∧ nk ≤ 8 ∧ H p = some (.ins C dx []) ∧
  ∀ (A : HA) (c : Lg) (H' : Hp), A.p = p → HR K C A (List.replicate nk HK.ini) H' c → Tr H [(p, .ins C dx [])] H' c → Q .non H'
def spKnown (K : PySem.W.Frag) (C : Addr) : Sp := fun vs H Q _ => vs.length = 1 ∧ ∃ (A : HA) (hs : List HK) (c : Lg), vs = [.ref A.p] ∧ HR K C A hs H c ∧ Has H c ∧ ∀ (r : Addr) (H' : Hp), Tr H [] H' [(r, .lst ((hs.map fun h => h.upto).map V.int))] → Q (.ref r) H'
def heldM (hs : List HK) : List Int := srt ((hs.map fun h => asN h.aside).flatten)
def spHeld (K : PySem.W.Frag) (C : Addr) : Sp := fun vs H Q _ => vs.length = 1 ∧ ∃ (A : HA) (hs : List HK) (c : Lg), vs = [.ref A.p] ∧ HR K C A hs H c ∧ Has H c ∧ (hs.map fun h => asN h.aside).flatten.length ≤ 1000 ∧
  ∀ (r : Addr) (H' : Hp), Tr H [] H' [(r, .lst ((heldM hs).map V.int))] → Q (.ref r) H'
def lookM (h : HK) : PyData := if h.upto < 0 then .none else .tuple [.int h.worth, .int h.since, .int h.upto]
def spLook (K : PySem.W.Frag) (C : Addr) : Sp := fun vs H Q _ => vs.length = 2 ∧ ∃ (A : HA) (hs : List HK) (c : Lg) (k : Nat) (h : HK), vs = [.ref A.p, .int k] ∧ HR K C A hs H c ∧ Has H c ∧ hs[k]? = some h ∧
  ∀ (v : V) (H' : Hp), Grow H H' → Rp K H' (lookM h) v → Q v H'
def minU (hs : List HK) : Int := ((hs.map fun h => h.upto).min?).getD 0
def maxS (hs : List HK) : Int := ((hs.map fun h => (h.since : Int)).max?).getD 0
def wholeM (hs : List HK) : Option (Int × List Int) := if minU hs < maxS hs then none else if 0 ≤ minU hs then some (minU hs, hs.map fun h => h.worth) else none
def spWhole (K : PySem.W.Frag) (C : Addr) : Sp := fun vs H Q _ => vs.length = 1 ∧ ∃ (A : HA) (hs : List HK) (c : Lg), vs = [.ref A.p] ∧ HR K C A hs H c ∧ Has H c ∧ 0 < hs.length ∧
  (wholeM hs = none → Q .non H) ∧
  (∀ n ws, wholeM hs = some (n, ws) → ∀ (r t : Addr) (H' : Hp), Tr H [] H' [(r, .lst (ws.map V.int))] → H' t = some (.tup [.int n, .ref r]) → Q (.ref t) H')
end Cu

namespace Cu
open PySem PySem.Spec PyProof.Rows L2
section
variable {P : Program} {w : World} {K : PySem.W.Frag} {mg : Str → Option Value} {base : Heap} {C : Addr}
theorem ok_Hinit {tk : Tok} (F : Kd K mg "Hearer" C "Hearer.__init__" s_Hearer_init) (Bm : Blt mg) (CHearer : CHr K C) (km_MOST_KEYS : mg "MOST_KEYS" = some (.int 8 tk)) : Kf P w K mg base 1 "Hearer" C ["self", "keys"] (spHinit K C) := by
  refine F.ok sc_Hearer_init (fun _ _ _ _ _ _ us hl => match us, hl with | [_, _], _ => rfl) len_of fun qual f cdv A0 outer s H vs Q E hr h => ?_
  obtain ⟨_, p, dx, nk, rfl, hk, hk8, hp, k⟩ := h
  refine ⟨_, (pss_cons (ps_if (pt_not (pt_chain op_le op_le pe_int (pv 1) (pe_glob (v := .int 8) rfl km_MOST_KEYS ⟨_, rfl⟩)))
        (pss_one ps_never)
        pss_nil)
      (pss_cons (ps_fld (pv 0) (pe_I (pe_lc (own := [("key", 2)]) (g := (gName 2)) (tt := tYes) rfl sc_Hearer_init.nd (pi_range1 rfl Bm.range (pa_cons (pv 1) pa_nil)) (blkOk_by (N := ["self", "keys", "key"]) (sc := defScope s_Hearer_init) (by decide +kernel)) (fun _ _ _ _ _ => (pg_name (i := 2) sc_Hearer_init.nd rfl (Or.inl rfl))) (fun _ _ _ _ _ => pts_nil) (fun _ _ _ _ _ => pe_int))) rfl)
      (pss_cons (ps_fld (pv 0) (pe_I (pe_lc (own := [("key", 2)]) (g := (gName 2)) (tt := tYes) rfl sc_Hearer_init.nd (pi_range1 rfl Bm.range (pa_cons (pv 1) pa_nil)) (blkOk_by (N := ["self", "keys", "key"]) (sc := defScope s_Hearer_init) (by decide +kernel)) (fun _ _ _ _ _ => (pg_name (i := 2) sc_Hearer_init.nd rfl (Or.inl rfl))) (fun _ _ _ _ _ => pts_nil) (fun _ _ _ _ _ => pe_int))) rfl)
      (pss_cons (ps_fld (pv 0) (pe_I (pe_lc (own := [("key", 2)]) (g := (gName 2)) (tt := tYes) rfl sc_Hearer_init.nd (pi_range1 rfl Bm.range (pa_cons (pv 1) pa_nil)) (blkOk_by (N := ["self", "keys", "key"]) (sc := defScope s_Hearer_init) (by decide +kernel)) (fun _ _ _ _ _ => (pg_name (i := 2) sc_Hearer_init.nd rfl (Or.inl rfl))) (fun _ _ _ _ _ => pts_nil) (fun _ _ _ _ _ => (pe_un un_neg pe_int)))) rfl)
      (pss_one (ps_fld (pv 0) (pe_lc (own := [("key", 2)]) (g := (gName 2)) (tt := tYes) rfl sc_Hearer_init.nd (pi_range1 rfl Bm.range (pa_cons (pv 1) pa_nil)) (blkOk_by (N := ["self", "keys", "key"]) (sc := defScope s_Hearer_init) (by decide +kernel)) (fun _ _ _ _ _ => (pg_name (i := 2) sc_Hearer_init.nd rfl (Or.inl rfl))) (fun _ _ _ _ _ => pts_nil) (fun _ _ _ _ _ => pe_dnewK)) rfl)))))), ?_⟩
  have h0 := Has.one hp nins
  refine ⟨_, rfl, _, _, rfl, rfl, _, rfl, iteP (decide_eq_true (by omega)) ⟨_, _, rfl, rfl, _, rfl, iteM (by simp; omega) ?_⟩⟩
  refine rd_const (v := .int 0) (by rfl) hk8 (fun _ => rfl) (fun _ _ _ q => q) fun p1 H1 t1 => ?_
  have s1 := (show Tr H [(p, .ins C dx [])] H1 [(p1, .lst (List.replicate nk (.int 0))), (p, .ins C dx [])] from t1.right (D := [(p, .ins C dx [])])).swap2
  have e1 : ((0 : Nat) : Int) = 0 := rfl
  refine ⟨_, rfl, p, C, dx, [], rfl, (s1.now h0).head, CHearer.cl, CHearer.n1, (by show 0 < 1000; decide), ?_⟩
  have s2 := s1.put (o' := .ins C dx [("worth", .ref p1)]) h0 nins
  refine rd_const (v := .int 0) (by rfl) hk8 (fun _ => rfl) (fun _ _ _ q => q) fun p2 H2 t2 => ?_
  have s3 := (s2.trans (t2.right (D := [(p, .ins C dx [("worth", .ref p1)]), (p1, .lst (List.replicate nk (.int 0)))]))).swap2
  refine ⟨_, rfl, p, C, dx, [("worth", .ref p1)], rfl, (s3.now h0).head, CHearer.cl, CHearer.n2, (by show 1 < 1000; decide), ?_⟩
  have s4 := s3.put (o' := .ins C dx [("worth", .ref p1), ("since", .ref p2)]) h0 nins
  refine rd_const (v := .int (-1)) (by rfl) hk8 (fun _ => rfl) (fun _ _ _ q => ⟨_, rfl, q⟩) fun p3 H3 t3 => ?_
  have s5 := (s4.trans (t3.right (D := [(p, .ins C dx [("worth", .ref p1), ("since", .ref p2)]), (p2, .lst (List.replicate nk (.int 0))), (p1, .lst (List.replicate nk (.int 0)))]))).swap2
  refine ⟨_, rfl, p, C, dx, [("worth", .ref p1), ("since", .ref p2)], rfl, (s5.now h0).head, CHearer.cl, CHearer.n3, (by show 2 < 1000; decide), ?_⟩
  have s6 := s5.put (o' := .ins C dx [("worth", .ref p1), ("since", .ref p2), ("upto", .ref p3)]) h0 nins
  refine ⟨_, rfl, _, rfl, by omega, by omega, fun D hD => ?_⟩
  refine lc_range (lo := 0) (n := (nk : Int).toNat) (fun m H4 => ∃ ds : List Addr, ds.length = m ∧ Tr H [(p, .ins C dx [])] H4 ((D, .lst (ds.map V.ref)) :: (p, HO.ins C dx [("worth", V.ref p1), ("since", V.ref p2), ("upto", V.ref p3)]) :: (ds.map (fun d => (d, HO.dK [])) ++ [(p3, HO.lst (List.replicate nk (V.int (-1)))), (p2, HO.lst (List.replicate nk (V.int 0))), (p1, HO.lst (List.replicate nk (V.int 0)))])))
    ⟨[], rfl, s6.new hD nl⟩ ?_ ?_
  · rintro m H4 hm ⟨ds, hl, t⟩
    refine ⟨rfl, fun d hd => ⟨_, by rw [upd_ne (ne_of_none (t.now h0).head hd)]; exact (t.now h0).head, by rw [List.length_map, hl]; exact small1000 (by omega), ds ++ [d], by rw [List.length_append, hl]; rfl, ?_⟩⟩
    have t2 := (t.new (o := .dK []) hd ndk).swap2.put (o' := .lst (ds.map V.ref ++ [.ref d])) h0 nl
    rw [List.map_append, List.map_append]
    refine t2.perm (List.Perm.cons _ ?_)
    have : ((d, HO.dK []) :: (p, HO.ins C dx [("worth", .ref p1), ("since", .ref p2), ("upto", .ref p3)]) :: (ds.map (fun d => (d, HO.dK [])) ++ [(p3, HO.lst (List.replicate nk (V.int (-1)))), (p2, HO.lst (List.replicate nk (V.int 0))), (p1, HO.lst (List.replicate nk (V.int 0)))])).Perm
        ((p, HO.ins C dx [("worth", .ref p1), ("since", .ref p2), ("upto", .ref p3)]) :: ((d, HO.dK []) :: (ds.map (fun d => (d, HO.dK [])) ++ [(p3, HO.lst (List.replicate nk (V.int (-1)))), (p2, HO.lst (List.replicate nk (V.int 0))), (p1, HO.lst (List.replicate nk (V.int 0)))]))) := List.Perm.swap _ _ _
    refine this.trans (List.Perm.cons _ ?_)
    rw [List.append_assoc]
    exact List.perm_middle.symm
  · rintro H4 ⟨ds, hl, t⟩
    rw [Int.toNat_natCast] at hl
    refine ⟨_, rfl, p, C, dx, [("worth", .ref p1), ("since", .ref p2), ("upto", .ref p3)], rfl, (t.now h0).tail.head, CHearer.cl, CHearer.n4, (by show 3 < 1000; decide), ?_⟩
    have t2 := t.swap2.put (o' := .ins C dx [("worth", .ref p1), ("since", .ref p2), ("upto", .ref p3), ("aside", .ref D)]) h0 nins
    refine k ⟨p, dx, p1, p2, p3, D, ds⟩ _ _ rfl ⟨List.replicate nk [], rfl, by rw [List.length_replicate]; exact hl, by rw [List.length_replicate, List.length_replicate], fun j h kvs e1 e2 => ?_⟩ (t2.perm (List.Perm.cons _ ?_))
    · rw [List.getElem?_replicate] at e1 e2
      by_cases hj : j < nk
      · rw [if_pos hj] at e1 e2
        cases e1
        cases e2
        rfl
      · rw [if_neg hj] at e1
        cases e1
    · have ez : List.zipWith (fun d k => (d, HO.dK k)) ds (List.replicate nk []) = ds.map fun d => (d, HO.dK []) := by
        apply List.ext_getElem?
        intro j
        rw [List.getElem?_zipWith, List.getElem?_map, List.getElem?_replicate]
        by_cases hj : j < nk
        · rw [if_pos hj]
          cases ds[j]? <;> rfl
        · rw [if_neg hj, List.getElem?_eq_none (by omega)]
          rfl
      simp only [List.map_replicate, HK.ini]
      rw [ez]
      show ((D, HO.lst (ds.map V.ref)) :: ds.map (fun d => (d, HO.dK [])) ++ [(p3, _), (p2, _), (p1, _)]).Perm ([(p1, _), (p2, _), (p3, _)] ++ ((D, HO.lst (ds.map V.ref)) :: ds.map (fun d => (d, HO.dK []))))
      refine List.perm_append_comm.trans (List.Perm.append_right _ ?_)
      exact (List.reverse_perm _).symm
end
end Cu

namespace Cu
open PySem PySem.Spec PyProof.Rows L2
section
variable {P : Program} {w : World} {K : PySem.W.Frag} {mg : Str → Option Value} {base : Heap} {C : Addr}
theorem ok_known (F : Md K C "known" "Hearer.known" s_Hearer_known) (Bm : Blt mg) (CHearer : CHr K C) : Mf P w K mg base 1 C "known" ["self"] (spKnown K C) := by
  refine F.ok sc_Hearer_known (fun _ _ _ _ _ _ us hl => match us, hl with | [_], _ => rfl) len_of fun qual f cdv A0 outer s H vs Q E hr h => ?_
  obtain ⟨_, A, hs, c, rfl, r, hc, k⟩ := h
  refine ⟨_, (pss_one (ps_ret (pe_callTy call_list_of rfl Bm.list (by decide +kernel) (pa_cons (pe_fld (pv 0) rfl) pa_nil)))), ?_⟩
  refine ⟨_, rfl, _, C, _, _, _, rfl, r.at_p hc, CHearer.cl, CHearer.n3, hF3 A, _, _, rfl, .inl (SqL.of (r.at3 hc)), fun l hl => k l _ ?_⟩
  rw [List.map_map]
  exact (Tr.refl H []).new hl nl
end
end Cu

namespace Cu
open PySem PySem.Spec PyProof.Rows L2
section
variable {P : Program} {w : World} {K : PySem.W.Frag} {mg : Str → Option Value} {base : Heap} {C : Addr}
theorem ok_held (F : Md K C "held" "Hearer.held" s_Hearer_held) (Bm : Blt mg) (CHearer : CHr K C) : Mf P w K mg base 1 C "held" ["self"] (spHeld K C) := by
  refine F.ok sc_Hearer_held (fun _ _ _ _ _ _ us hl => match us, hl with | [_], _ => rfl) len_of fun qual f cdv A0 outer s H vs Q E hr h => ?_
  obtain ⟨_, A, hs, c, rfl, r, hc, hsz, k⟩ := h
  refine ⟨_, (pss_cons (ps_set (i := 1) sc_Hearer_held.nd rfl (Or.inl rfl) (pe_lst pa_nil))
      (pss_cons (ps_for PassesOwn.never rfl (pi_list (pe_fld (pv 0) rfl)) (pg_name (i := 2) sc_Hearer_held.nd rfl (Or.inl rfl))
        (pss_one (ps_expr (pe_bm PySem.F.plainAttrs_list PySem.F.slot_list_extend PySem.F.type_list_extend mt_extend (pv 1) (pa_cons (pe_callTy (call_listD rfl) rfl Bm.list (by decide +kernel) (pa_cons (pv 2) pa_nil)) pa_nil)))))
      (pss_one (ps_ret (pe_callB cr_sortedI rfl Bm.sorted (by decide +kernel) (pa_cons (pv 1) pa_nil)))))), ?_⟩
  refine ⟨(by show 0 ≤ sizeLine; decide), fun p hp => ?_⟩
  have t1 := (Tr.refl H []).new (o := .lst []) hp nl
  have up : ∀ {H2 : Hp} {O : Lg}, Tr H [] H2 O → Has H2 c ∧ HR K C A hs H2 c := fun t => ⟨(t.has c hc).right, r.mono t.mono⟩
  have hds : A.ds.length = hs.length := by
    obtain ⟨_, _, l1, _⟩ := r.ex
    exact l1
  refine ⟨_, rfl, _, C, _, _, _, rfl, (up t1).2.at_p (up t1).1, CHearer.cl, CHearer.n4, hF4 A, _, rfl, ⟨_, SqL.of ((up t1).2.at4 (up t1).1)⟩, for_list (K := K) (a := A.l4) (xs := A.ds.map V.ref)
    (fun i σ H2 => ∃ v : Option V, σ = [some (.ref A.p), some (.ref p), v] ∧ Tr H [] H2 [(p, .lst ((((hs.take i).map fun h => asN h.aside).flatten).map V.int))]) ⟨none, rfl, t1⟩ (fun i σ H2 _ ⟨_, _, t⟩ => SqL.of ((up t).2.at4 (up t).1)) ?_ ?_⟩
  · rintro i x σ H2 hi ⟨v, rfl, t⟩
    have hi' : i < hs.length := by
      have := (List.getElem?_eq_some_iff.mp hi).1
      rw [List.length_map] at this
      omega
    obtain ⟨h, eh⟩ : ∃ h, hs[i]? = some h := ⟨hs[i], List.getElem?_eq_getElem hi'⟩
    obtain ⟨d, kvs, ed, hd, ok⟩ := (up t).2.dict (up t).1 eh
    rw [List.getElem?_map, ed] at hi
    cases hi
    refine ⟨_, rfl, .inl ⟨rfl, _, SqL.of t.own.head⟩, _, rfl, d, kvs, rfl, .inl hd, fun l hl => ?_⟩
    have ek : (kvs.map fun kv => kV kv.1) = (asN h.aside).map V.int := by
      have := congrArg (List.map kV) ok.keys
      rw [List.map_map, List.map_map] at this
      exact this
    have hle : (((hs.take i).map fun h => asN h.aside).flatten).length + (asN h.aside).length ≤ (hs.map fun h => asN h.aside).flatten.length := by
      have e1 : (hs.map fun h => asN h.aside) = ((hs.take (i + 1)).map fun h => asN h.aside) ++ ((hs.drop (i + 1)).map fun h => asN h.aside) := by
        rw [← List.map_append, List.take_append_drop]
      rw [e1, take_snoc eh, List.map_append, List.flatten_append, List.flatten_append, List.length_append, List.length_append]
      simp
    have np : p ≠ l := ne_of_none t.own.head hl
    refine ⟨_, _, _, _, rfl, rfl, by rw [upd_ne np]; exact t.own.head, upd_same, ?_, ?_⟩
    · rw [ek, List.length_map, List.length_map]
      exact Nat.le_trans (Nat.le_trans hle hsz) (by decide)
    · refine ⟨_, rfl, ?_⟩
      have e2 : (((hs.take (i + 1)).map fun h => asN h.aside).flatten).map V.int = (((hs.take i).map fun h => asN h.aside).flatten).map V.int ++ (kvs.map fun kv => kV kv.1) := by
        rw [ek, take_snoc eh, List.map_append, List.flatten_append, List.map_append]
        simp
      rw [e2]
      exact (t.old hl).put .nil nl
  · rintro σ H2 ⟨v, rfl, t⟩
    rw [List.take_of_length_le (by rw [List.length_map]; omega)] at t
    refine ⟨_, rfl, p, _, rfl, SqL.of t.own.head, fun ns q hperm hsort hq => ?_⟩
    have e := srt_eq hperm hsort
    subst e
    exact k q _ ((t.new hq nl).swap2.tail)
end
end Cu

namespace Cu
open PySem PySem.Spec PyProof.Rows L2
section
variable {P : Program} {w : World} {K : PySem.W.Frag} {mg : Str → Option Value} {base : Heap} {C : Addr}
theorem ok_look (F : Md K C "look" "Hearer.look" s_Hearer_look) (Bm : Blt mg) (CHearer : CHr K C) : Mf P w K mg base 1 C "look" ["self", "key"] (spLook K C) := by
  refine F.ok sc_Hearer_look (fun _ _ _ _ _ _ us hl => match us, hl with | [_, _], _ => rfl) len_of fun qual f cdv A0 outer s H vs Q E hr h => ?_
  obtain ⟨_, A, hs, c, k, h, rfl, r, hc, eh, go⟩ := h
  have hp := r.at_p hc
  have hk : k < hs.length := (List.getElem?_eq_some_iff.mp eh).1
  refine ⟨_, (pss_cons (ps_if (pt_not (pt_chain op_le op_lt pe_int (pv 1) (pe_callB call_len_seq rfl Bm.len (by decide +kernel) (pa_cons (pe_fld (pv 0) rfl) pa_nil))))
        (pss_one ps_never)
        pss_nil)
      (pss_cons (ps_if (pt_cmpR op_lt (pe_ix ix_list (pe_fld (pv 0) rfl) (pv 1) (fun _ _ => rfl)) pe_int (nomark _))
        (pss_one (ps_ret pe_non))
        pss_nil)
      (pss_one (ps_ret (pe_tup (pa_cons (pe_ix ix_list (pe_fld (pv 0) rfl) (pv 1) (fun _ _ => rfl)) (pa_cons (pe_ix ix_list (pe_fld (pv 0) rfl) (pv 1) (fun _ _ => rfl)) (pa_cons (pe_ix ix_list (pe_fld (pv 0) rfl) (pv 1) (fun _ _ => rfl)) pa_nil)))))))), ?_⟩
  refine ⟨_, rfl, _, _, rfl, rfl, _, rfl, iteP (decide_eq_true (by omega)) ⟨_, rfl, _, C, _, _, _, rfl, hp, CHearer.cl, CHearer.n1, hF1 A, _, _, rfl, .inl (SqL.of (r.at1 hc)), _, _, rfl, rfl, _, rfl, iteM (by simp; omega) ?_⟩⟩
  have a1 : atI (hs.map fun h => V.int h.worth) (k : Int) = some (V.int h.worth) := at_of (j := k) rfl (by rw [List.getElem?_map, eh]; rfl)
  have a2 : atI (hs.map fun h => V.int h.since) (k : Int) = some (V.int h.since) := at_of (j := k) rfl (by rw [List.getElem?_map, eh]; rfl)
  have a3 : atI (hs.map fun h => V.int h.upto) (k : Int) = some (V.int h.upto) := at_of (j := k) rfl (by rw [List.getElem?_map, eh]; rfl)
  refine ⟨_, rfl, _, C, _, _, _, rfl, hp, CHearer.cl, CHearer.n3, hF3 A, _, rfl, _, _, _, _, rfl, rfl, SqL.of (r.at3 hc), a3, _, _, rfl, rfl, _, rfl, ite2 (fun h0 => ?_) fun h0 => ?_⟩
  · refine go _ H (Grow.refl H) ?_
    rw [lookM, if_pos (of_decide_eq_true h0)]
    exact .non
  · refine ⟨_, rfl, _, C, _, _, _, rfl, hp, CHearer.cl, CHearer.n1, hF1 A, _, rfl, _, _, _, _, rfl, rfl, SqL.of (r.at1 hc), a1, _, rfl, _, C, _, _, _, rfl, hp, CHearer.cl, CHearer.n2, hF2 A, _, rfl, _, _, _, _, rfl, rfl, SqL.of (r.at2 hc), a2,
      _, rfl, _, C, _, _, _, rfl, hp, CHearer.cl, CHearer.n3, hF3 A, _, rfl, _, _, _, _, rfl, rfl, SqL.of (r.at3 hc), a3, ⟨(by show 3 ≤ sizeLine; decide), fun t ht => go _ _ (Grow.new ht) ?_⟩⟩
    rw [lookM, if_neg (of_decide_eq_false (by simpa using h0))]
    exact .tup upd_same (.cons .int (.cons .int (.cons .int .nil)))
end
end Cu

namespace Cu
open PySem PySem.Spec PyProof.Rows L2
section
variable {P : Program} {w : World} {K : PySem.W.Frag} {mg : Str → Option Value} {base : Heap} {C : Addr}
theorem ok_whole (F : Md K C "whole" "Hearer.whole" s_Hearer_whole) (Bm : Blt mg) (CHearer : CHr K C) : Mf P w K mg base 1 C "whole" ["self"] (spWhole K C) := by
  refine F.ok sc_Hearer_whole (fun _ _ _ _ _ _ us hl => match us, hl with | [_], _ => rfl) len_of fun qual f cdv A0 outer s H vs Q E hr h => ?_
  obtain ⟨_, A, hs, c, rfl, r, hc, hne, kn, ks⟩ := h
  have hp := r.at_p hc
  have h3 := r.at3 hc
  have h2 := r.at2 hc
  rw [show (hs.map fun h => V.int h.upto) = (hs.map fun h => h.upto).map V.int by rw [List.map_map]; rfl] at h3
  rw [show (hs.map fun h => V.int h.since) = (hs.map fun h => (h.since : Int)).map V.int by rw [List.map_map]; rfl] at h2
  refine ⟨_, (pss_cons (ps_set (i := 1) sc_Hearer_whole.nd rfl (Or.inl rfl) (pe_callB (cr_min rfl) rfl Bm.min (by decide +kernel) (pa_cons (pe_fld (pv 0) rfl) pa_nil)))
      (pss_cons (ps_if (pt_cmpR op_lt (pv 1) (pe_callB (cr_max rfl) rfl Bm.max (by decide +kernel) (pa_cons (pe_fld (pv 0) rfl) pa_nil)) (nomark _))
        (pss_one (ps_ret pe_non))
        pss_nil)
      (pss_one (ps_ret (pe_ifExp (pt_cmpR op_ge (pv 1) pe_int (nomark _)) (pe_tup (pa_cons (pv 1) (pa_cons (pe_callTy call_list_of rfl Bm.list (by decide +kernel) (pa_cons (pe_fld (pv 0) rfl) pa_nil)) pa_nil))) pe_non))))), ?_⟩
  refine ⟨_, rfl, _, C, _, _, _, rfl, hp, CHearer.cl, CHearer.n3, hF3 A, A.l3, hs.map fun h => h.upto, rfl, SqL.of h3, by rw [List.length_map]; exact hne, fun m m1 m2 => ?_⟩
  have em : minU hs = m := by
    rw [minU, List.min?_eq_some_iff.mpr ⟨m1, m2⟩]
    rfl
  refine ⟨_, rfl, _, rfl, _, C, _, _, _, rfl, hp, CHearer.cl, CHearer.n2, hF2 A, A.l2, hs.map fun h => (h.since : Int), rfl, SqL.of h2, by rw [List.length_map]; exact hne, fun g g1 g2 => ?_⟩
  have eg : maxS hs = g := by
    rw [maxS, List.max?_eq_some_iff.mpr ⟨g1, g2⟩]
    rfl
  refine ⟨_, _, rfl, rfl, _, rfl, ite2 (fun h0 => ?_) fun h0 => ?_⟩
  · refine kn ?_
    rw [wholeM, if_pos (by rw [em, eg]; exact of_decide_eq_true h0)]
  · have h0' : ¬ minU hs < maxS hs := by
      rw [em, eg]
      exact of_decide_eq_false (by simpa using h0)
    refine ⟨_, rfl, _, _, rfl, rfl, _, rfl, ite2 (fun h1 => ?_) fun h1 => ?_⟩
    · refine ⟨_, rfl, _, rfl, _, C, _, _, _, rfl, hp, CHearer.cl, CHearer.n1, hF1 A, _, _, rfl, .inl (SqL.of (r.at1 hc)), fun l hl => ⟨(by show 2 ≤ sizeLine; decide), fun t ht => ?_⟩⟩
      refine ks m (hs.map fun h => h.worth) ?_ l t _ ?_ upd_same
      · rw [wholeM, if_neg h0', if_pos (by rw [em]; exact of_decide_eq_true h1), em]
      · rw [List.map_map]
        exact ((Tr.refl H []).new hl nl).old ht
    · refine kn ?_
      rw [wholeM, if_neg h0', if_neg (by rw [em]; exact of_decide_eq_false (by simpa using h1))]
end
end Cu

namespace Cu
open PySem PySem.Spec PyProof.Rows L2
/-! the mirror's steps -/
theorem findA_drop {as : List As} {n m : Int} (h : n ≠ m) : findA (dropA as m) n = findA as n := by
  induction as with
  | nil => rfl
  | cons a as ih =>
    by_cases hm : (a.n : Int) = m
    · have e1 : dropA (a :: as) m = dropA as m := by simp [dropA, hm]
      have e2 : findA (a :: as) n = findA as n := by simp [findA, show ¬ (a.n : Int) = n by omega]
      rw [e1, e2, ih]
    · have e1 : dropA (a :: as) m = a :: dropA as m := by simp [dropA, hm]
      rw [e1]
      by_cases hn : (a.n : Int) = n
      · simp [findA, hn]
      · have e2 : ∀ bs, findA (a :: bs) n = findA bs n := fun bs => by simp [findA, hn]
        rw [e2, e2, ih]
theorem findA_some {as : List As} {n : Int} (h : n ∈ asN as) : ∃ a, findA as n = some a ∧ (a.n : Int) = n := by
  induction as with
  | nil => cases h
  | cons b as ih =>
    by_cases hb : (b.n : Int) = n
    · exact ⟨b, by simp [findA, hb], hb⟩
    · have h' : n ∈ asN as := by
        rcases List.mem_cons.mp (show n ∈ (b.n : Int) :: asN as from h) with e | e
        · exact absurd e.symm hb
        · exact e
      obtain ⟨a, ha, e⟩ := ih h'
      exact ⟨a, by simpa [findA, hb] using ha, e⟩
theorem findA_n {as : List As} {n : Int} {a : As} (h : findA as n = some a) : (a.n : Int) = n := by
  have := List.find?_some h
  simpa using this
theorem fstep_find {st : HK × List Int} {n m : Int} (h : n ≠ m) : findA (HK.fstep st m).1.aside n = findA st.1.aside n := by
  unfold HK.fstep
  cases hf : findA st.1.aside m with
  | none => rfl
  | some a =>
    dsimp only
    split
    · exact findA_drop h
    · split
      · exact findA_drop h
      · rfl
theorem fold_find {n : Int} : ∀ {l : List Int} {st : HK × List Int}, n ∉ l → findA (l.foldl HK.fstep st).1.aside n = findA st.1.aside n
  | [], _, _ => rfl
  | m :: l, st, h => by
    rw [List.foldl_cons, fold_find fun q => h (List.mem_cons_of_mem _ q), fstep_find fun q => h (by rw [q]; exact List.mem_cons_self)]
theorem fold_len {l : List Int} {st : HK × List Int} : (l.foldl HK.fstep st).2.length ≤ st.2.length + l.length := by
  induction l generalizing st with
  | nil => exact Nat.le_refl _
  | cons n l ih =>
    rw [List.foldl_cons]
    refine Nat.le_trans ih ?_
    have : (HK.fstep st n).2.length ≤ st.2.length + 1 := by
      unfold HK.fstep
      cases findA st.1.aside n with
      | none => exact Nat.le_succ _
      | some a =>
        dsimp only
        split
        · exact Nat.le_succ _
        · split
          · simp
          · exact Nat.le_succ _
    rw [List.length_cons]
    omega
theorem srt_perm (ns : List Int) : (srt ns).Perm ns := List.mergeSort_perm ns _
theorem wd_set (b : Bool) : decide (V.str (wd b) = V.str "set") = b := by cases b <;> decide +kernel
theorem wd_add (b : Bool) : decide (V.str (wd b) = V.str "add") = !b := by cases b <;> decide +kernel
/-- what a key's changes put aside must be, to be sorted -/
structure Wf (h : HK) : Prop where
  nd : (asN h.aside).Nodup
  few : h.aside.length < 122
def prt (hs : List HK) (l : Letter) (m : Nat) : List HK := hs.mapIdx fun k h => if k < m then (hearK k h l).1 else h
def fnd (hs : List HK) (l : Letter) (m : Nat) : List Int := ((hs.mapIdx fun k h => (hearK k h l).2).take m).flatten
theorem prt_get {hs : List HK} {l : Letter} {m k : Nat} {h : HK} (e : hs[k]? = some h) : (prt hs l m)[k]? = some (if k < m then (hearK k h l).1 else h) := by
  rw [prt, List.getElem?_mapIdx, e]
  rfl
theorem prt_len (hs : List HK) (l : Letter) (m : Nat) : (prt hs l m).length = hs.length := by simp [prt]
theorem prt_succ {hs : List HK} {l : Letter} {m : Nat} {h : HK} (e : hs[m]? = some h) : prt hs l (m + 1) = (prt hs l m).set m (hearK m h l).1 := by
  apply List.ext_getElem?
  intro k
  cases ek : hs[k]? with
  | none =>
    have hk := List.getElem?_eq_none_iff.mp ek
    rw [List.getElem?_eq_none (by rw [prt_len]; exact hk), List.getElem?_eq_none (by rw [List.length_set, prt_len]; exact hk)]
  | some g =>
    rw [prt_get ek]
    by_cases hk : m = k
    · subst hk
      rw [e] at ek
      cases ek
      rw [List.getElem?_set_self (by rw [prt_len]; exact (List.getElem?_eq_some_iff.mp e).1), if_pos (Nat.lt_succ_self _)]
    · rw [List.getElem?_set_ne hk, prt_get ek]
      congr 1
      by_cases h1 : k < m
      · rw [if_pos h1, if_pos (by omega)]
      · rw [if_neg h1, if_neg (by omega)]
theorem fnd_succ {hs : List HK} {l : Letter} {m : Nat} {h : HK} (e : hs[m]? = some h) : fnd hs l (m + 1) = fnd hs l m ++ (hearK m h l).2 := by
  unfold fnd
  rw [take_snoc (x := (hearK m h l).2) (by rw [List.getElem?_mapIdx, e]; rfl), List.flatten_append]
  simp
theorem prt_all {hs : List HK} {l : Letter} {m : Nat} (h : hs.length ≤ m) : prt hs l m = hear hs l := by
  apply List.ext_getElem?
  intro k
  cases ek : hs[k]? with
  | none =>
    have hk := List.getElem?_eq_none_iff.mp ek
    rw [List.getElem?_eq_none (by rw [prt_len]; exact hk), List.getElem?_eq_none (by rw [hear_len]; exact hk)]
  | some g =>
    have hk := (List.getElem?_eq_some_iff.mp ek).1
    rw [prt_get ek, if_pos (by omega), hear, List.getElem?_mapIdx, ek]
    rfl
theorem fnd_all {hs : List HK} {l : Letter} {m : Nat} (h : hs.length ≤ m) : fnd hs l m = heard hs l := by
  unfold fnd heard
  rw [List.take_of_length_le (by simpa using h)]
theorem flat_nil {xs : List (List Int)} (h : ∀ x ∈ xs, x = []) : xs.flatten = [] := by
  induction xs with
  | nil => rfl
  | cons x xs ih =>
    rw [List.flatten_cons, h x List.mem_cons_self, ih fun y hy => h y (List.mem_cons_of_mem _ hy)]
    rfl
/-- a letter that does nothing with the keys ahead of b, nothing with those from e on -/
theorem prt_low {hs : List HK} {l : Letter} {b : Nat} (h : ∀ k g, k < b → hearK k g l = (g, [])) : prt hs l b = hs ∧ fnd hs l b = [] := by
  constructor
  · apply List.ext_getElem?
    intro k
    cases ek : hs[k]? with
    | none => rw [List.getElem?_eq_none (by rw [prt_len]; exact List.getElem?_eq_none_iff.mp ek)]
    | some g =>
      rw [prt_get ek]
      split
      · rename_i hk
        rw [h k g hk]
      · rfl
  · unfold fnd
    have : ∀ x ∈ (hs.mapIdx fun k h => (hearK k h l).2).take b, x = [] := fun x hx => by
      obtain ⟨k, hk⟩ := List.getElem?_of_mem hx
      have hkb : k < b := by
        have := (List.getElem?_eq_some_iff.mp hk).1
        rw [List.length_take] at this
        omega
      rw [List.getElem?_take_of_lt hkb, List.getElem?_mapIdx] at hk
      cases ek : hs[k]? with
      | none =>
        rw [ek] at hk
        cases hk
      | some g =>
        rw [ek] at hk
        have e1 : (hearK k g l).2 = x := Option.some.inj hk
        rw [← e1, h k g hkb]
    exact flat_nil this
theorem prt_high {hs : List HK} {l : Letter} {e : Nat} (h : ∀ k g, e ≤ k → hearK k g l = (g, [])) : prt hs l e = hear hs l ∧ fnd hs l e = heard hs l := by
  constructor
  · apply List.ext_getElem?
    intro k
    cases ek : hs[k]? with
    | none => rw [List.getElem?_eq_none (by rw [prt_len]; exact List.getElem?_eq_none_iff.mp ek), List.getElem?_eq_none (by rw [hear_len]; exact List.getElem?_eq_none_iff.mp ek)]
    | some g =>
      rw [prt_get ek, hear, List.getElem?_mapIdx, ek]
      split
      · rfl
      · rename_i hk
        show some g = some (hearK k g l).1
        rw [h k g (by omega)]
  · unfold heard fnd
    have : ∀ x ∈ (hs.mapIdx fun k h => (hearK k h l).2).drop e, x = [] := fun x hx => by
      obtain ⟨k, hk⟩ := List.getElem?_of_mem hx
      rw [List.getElem?_drop, List.getElem?_mapIdx] at hk
      cases ek : hs[e + k]? with
      | none =>
        rw [ek] at hk
        cases hk
      | some g =>
        rw [ek] at hk
        have e1 : (hearK (e + k) g l).2 = x := Option.some.inj hk
        rw [← e1, h (e + k) g (by omega)]
    have h0 : ((hs.mapIdx fun k h => (hearK k h l).2).drop e).flatten = [] := flat_nil this
    conv => rhs; rw [← List.take_append_drop e (hs.mapIdx fun k h => (hearK k h l).2), List.flatten_append, h0, List.append_nil]
section
variable {K : PySem.W.Frag} {H : Hp}
theorem Rp.chg_inv {n ahead : Nat} {c : Ch} {v : V} (h : Rp K H (Letter.enc (.change n c ahead)) v) : ∃ a, v = .ref a ∧ H a = some (.tup [.str "change", .int n, .int c.key, .str (wd c.set), .int c.worth, .int ahead]) := by
  obtain ⟨a, xs, e, f, r⟩ := Rp.tup_inv h
  obtain ⟨v1, r1, e1, h1, r⟩ := r.cons_inv
  obtain ⟨v2, r2, e2, h2, r⟩ := r.cons_inv
  obtain ⟨v3, r3, e3, h3, r⟩ := r.cons_inv
  obtain ⟨v4, r4, e4, h4, r⟩ := r.cons_inv
  obtain ⟨v5, r5, e5, h5, r⟩ := r.cons_inv
  obtain ⟨v6, r6, e6, h6, r⟩ := r.cons_inv
  have := r.nil_inv
  subst this e6 e5 e4 e3 e2 e1
  have h1 := Rp.str_iff.mp h1
  have h2 := Rp.int_iff.mp h2
  have h3 := Rp.int_iff.mp h3
  have h4 := Rp.str_iff.mp h4
  have h5 := Rp.int_iff.mp h5
  have h6 := Rp.int_iff.mp h6
  subst h1 h2 h3 h4 h5 h6
  exact ⟨a, e, f⟩
theorem Rp.part_inv {n b : Nat} {rows : List (Int × Nat)} {v : V} (h : Rp K H (Letter.enc (.part n b rows)) v) :
    ∃ a t xs, v = .ref a ∧ H a = some (.tup [.str "part", .int n, .int b, .ref t]) ∧ H t = some (.tup xs) ∧ xs.length = rows.length ∧ ∀ (i : Nat) r, rows[i]? = some r → ∃ q, xs[i]? = some (.ref q) ∧ H q = some (.tup [.int r.1, .int r.2]) := by
  obtain ⟨a, xs, e, f, r⟩ := Rp.tup_inv h
  obtain ⟨v1, r1, e1, h1, r⟩ := r.cons_inv
  obtain ⟨v2, r2, e2, h2, r⟩ := r.cons_inv
  obtain ⟨v3, r3, e3, h3, r⟩ := r.cons_inv
  obtain ⟨v4, r4, e4, h4, r⟩ := r.cons_inv
  have := r.nil_inv
  subst this e4 e3 e2 e1
  have h1 := Rp.str_iff.mp h1
  have h2 := Rp.int_iff.mp h2
  have h3 := Rp.int_iff.mp h3
  obtain ⟨t, ys, e4, f4, r4⟩ := h4.tup_inv
  subst h1 h2 h3 e4
  refine ⟨a, t, ys, e, f, f4, by rw [r4.length, List.length_map], fun i r hr => ?_⟩
  obtain ⟨u, hu, ru⟩ := r4.get (i := i) (d := .tuple [.int r.1, .int r.2]) (by rw [List.getElem?_map, hr]; rfl)
  obtain ⟨q, zs, e5, f5, r5⟩ := ru.tup_inv
  obtain ⟨w1, z1, e6, g1, r5⟩ := r5.cons_inv
  obtain ⟨w2, z2, e7, g2, r5⟩ := r5.cons_inv
  have := r5.nil_inv
  subst this e7 e6 e5
  have g1 := Rp.int_iff.mp g1
  have g2 := Rp.int_iff.mp g2
  subst g1 g2
  exact ⟨q, hu, f5⟩
theorem Rp.beat_inv {n : Nat} {lasts : List Nat} {v : V} (h : Rp K H (Letter.enc (.beat n lasts)) v) :
    ∃ a t, v = .ref a ∧ H a = some (.tup [.str "beat", .int n, .ref t]) ∧ H t = some (.tup (lasts.map fun k : Nat => V.int k)) := by
  obtain ⟨a, xs, e, f, r⟩ := Rp.tup_inv h
  obtain ⟨v1, r1, e1, h1, r⟩ := r.cons_inv
  obtain ⟨v2, r2, e2, h2, r⟩ := r.cons_inv
  obtain ⟨v3, r3, e3, h3, r⟩ := r.cons_inv
  have := r.nil_inv
  subst this e3 e2 e1
  have h1 := Rp.str_iff.mp h1
  have h2 := Rp.int_iff.mp h2
  obtain ⟨t, ys, e4, f4, r4⟩ := h3.tup_inv
  subst h1 h2 e4
  have ey : ys = lasts.map fun k : Nat => V.int k := by
    have : (lasts.map fun k : Nat => PyData.int k) = (lasts.map fun k : Nat => (k : Int)).map PyData.int := by
      rw [List.map_map]
      rfl
    rw [this] at r4
    have := r4.ints
    rw [this, List.map_map]
    rfl
  subst ey
  exact ⟨a, t, e, f, f4⟩
end
def spDo (K : PySem.W.Frag) (C : Addr) : Sp := fun vs H Q _ => vs.length = 2 ∧ ∃ (A : HA) (hs : List HK) (c : Lg) (v : V) (n ahead : Nat) (ch : Ch) (h : HK), vs = [.ref A.p, v] ∧ HR K C A hs H c ∧ Has H c ∧ Rp K H (Letter.enc (.change n ch ahead)) v ∧ hs[ch.key]? = some h ∧
  ∀ (c' : Lg) (H' : Hp), HR K C A (hs.set ch.key (h.done n ch.set ch.worth)) H' c' → Tr H c H' c' → Q .non H'
def spFreed (K : PySem.W.Frag) (C : Addr) : Sp := fun vs H Q _ => vs.length = 2 ∧ ∃ (A : HA) (hs : List HK) (c : Lg) (k : Nat) (h : HK), vs = [.ref A.p, .int k] ∧ HR K C A hs H c ∧ Has H c ∧ hs[k]? = some h ∧ Wf h ∧
  ∀ (r : Addr) (c' : Lg) (H' : Hp), HR K C A (hs.set k h.free.1) H' c' → Tr H c H' ((r, .lst (h.free.2.map V.int)) :: c') → Q (.ref r) H'
def spChanged (K : PySem.W.Frag) (C : Addr) : Sp := fun vs H Q _ => vs.length = 2 ∧ ∃ (A : HA) (hs : List HK) (c : Lg) (v : V) (n ahead : Nat) (ch : Ch) (h : HK), vs = [.ref A.p, v] ∧ HR K C A hs H c ∧ Has H c ∧ Rp K H (Letter.enc (.change n ch ahead)) v ∧ hs[ch.key]? = some h ∧ Wf h ∧
  ∀ (r : Addr) (c' : Lg) (H' : Hp), HR K C A (hs.set ch.key (h.chg n ch ahead).1) H' c' → Tr H c H' ((r, .lst ((h.chg n ch ahead).2.map V.int)) :: c') → Q (.ref r) H'
def spHear (K : PySem.W.Frag) (C : Addr) : Sp := fun vs H Q _ => vs.length = 2 ∧ ∃ (A : HA) (hs : List HK) (c : Lg) (v : V) (l : Letter), vs = [.ref A.p, v] ∧ HR K C A hs H c ∧ Has H c ∧ Rp K H l.enc v ∧ hs.length ≤ 8 ∧ (∀ h ∈ hs, Wf h) ∧
  (match l with | .change _ ch _ => ch.key < hs.length | .part _ b rows => b + rows.length ≤ hs.length | .beat _ lasts => lasts.length = hs.length) ∧
  ∀ (r : Addr) (c' : Lg) (H' : Hp), HR K C A (hear hs l) H' c' → Tr H c H' ((r, .lst ((heard hs l).map V.int)) :: c') → Q (.ref r) H'
def spCopied (K : PySem.W.Frag) (C : Addr) : Sp := fun vs H Q _ => vs.length = 2 ∧ ∃ (A : HA) (hs : List HK) (c : Lg) (v : V) (n b : Nat) (rows : List (Int × Nat)), vs = [.ref A.p, v] ∧ HR K C A hs H c ∧ Has H c ∧ Rp K H (Letter.enc (.part n b rows)) v ∧ hs.length ≤ 8 ∧ (∀ h ∈ hs, Wf h) ∧ b + rows.length ≤ hs.length ∧
  ∀ (r : Addr) (c' : Lg) (H' : Hp), HR K C A (hear hs (.part n b rows)) H' c' → Tr H c H' ((r, .lst ((heard hs (.part n b rows)).map V.int)) :: c') → Q (.ref r) H'
theorem HR.len {K : PySem.W.Frag} {C : Addr} {A : HA} {hs : List HK} {H : Hp} {c : Lg} (r : HR K C A hs H c) : A.ds.length = hs.length := let ⟨_, _, h, _⟩ := r.ex; h
theorem set_back {hs : List HK} {k : Nat} {h : HK} (e : hs[k]? = some h) : hs.set k h = hs := by
  apply List.ext_getElem?
  intro i
  by_cases hi : k = i
  · subst hi
    rw [List.getElem?_set_self (List.getElem?_eq_some_iff.mp e).1, e]
  · rw [List.getElem?_set_ne hi]
theorem ndec {c : Prop} [Decidable c] (h : ¬ decide c = true) : ¬ c := fun q => h (decide_eq_true q)
theorem hFno {A : HA} {m : Str} (h : (hF A).lookup m = none := by rfl) : (hF A).lookup m = none := h
theorem ixN_of {n j : Nat} {z : Int} (e : z = (j : Int)) (h : j < n) : ixN n z = some j := by
  rw [e]
  exact ixN_nat h
theorem free_len {h : HK} (w : Wf h) : h.free.2.length ≤ 121 := by
  refine Nat.le_trans fold_len ?_
  rw [(srt_perm _).length_eq, asN, List.length_map]
  have := w.few
  show 0 + _ ≤ _
  omega
theorem hearK_len {k : Nat} {h : HK} {l : Letter} (w : Wf h) : (hearK k h l).2.length ≤ 122 := by
  cases l with
  | change n c ahead =>
    simp only [hearK]
    split
    · unfold HK.chg
      split
      · exact Nat.zero_le _
      · split
        · exact Nat.zero_le _
        · have := free_len (h := h.done n c.set c.worth) ⟨w.nd, w.few⟩
          show _ + 1 ≤ 122
          omega
    · exact Nat.zero_le _
  | part n b rows =>
    simp only [hearK]
    split
    · split
      · unfold HK.row
        split
        · rename_i r _ _
          have := free_len (h := { h with worth := r.1, since := r.2, upto := n }) ⟨w.nd, w.few⟩
          omega
        · exact Nat.zero_le _
      · exact Nat.zero_le _
    · exact Nat.zero_le _
  | beat n lasts =>
    simp only [hearK]
    split <;> exact Nat.zero_le _
theorem flat_len {b : Nat} : ∀ {xs : List (List Int)}, (∀ x ∈ xs, x.length ≤ b) → xs.flatten.length ≤ b * xs.length
  | [], _ => Nat.zero_le _
  | x :: xs, h => by
    have ih := flat_len (xs := xs) fun y hy => h y (List.mem_cons_of_mem _ hy)
    have h1 := h x List.mem_cons_self
    rw [List.flatten_cons, List.length_append, List.length_cons, Nat.mul_add]
    omega
theorem fnd_len {hs : List HK} {l : Letter} {m : Nat} (w : ∀ h ∈ hs, Wf h) (h8 : hs.length ≤ 8) : (fnd hs l m).length ≤ 976 := by
  unfold fnd
  refine Nat.le_trans (flat_len (b := 122) fun x hx => ?_) ?_
  · have hx := List.mem_of_mem_take hx
    obtain ⟨k, hk⟩ := List.getElem?_of_mem hx
    rw [List.getElem?_mapIdx] at hk
    cases ek : hs[k]? with
    | none =>
      rw [ek] at hk
      cases hk
    | some g =>
      rw [ek] at hk
      have e1 : (hearK k g l).2 = x := Option.some.inj hk
      rw [← e1]
      exact hearK_len (w g (List.mem_of_getElem? ek))
  · rw [List.length_take, List.length_mapIdx]
    have : min m hs.length ≤ 8 := Nat.le_trans (Nat.min_le_right _ _) h8
    omega
theorem hear_change {hs : List HK} {n ahead : Nat} {ch : Ch} {h : HK} (e : hs[ch.key]? = some h) : hear hs (.change n ch ahead) = hs.set ch.key (h.chg n ch ahead).1 ∧ heard hs (.change n ch ahead) = (h.chg n ch ahead).2 := by
  have ek : hearK ch.key h (.change n ch ahead) = h.chg n ch ahead := by simp only [hearK, if_pos]
  obtain ⟨a1, a2⟩ := prt_low (hs := hs) (l := .change n ch ahead) (b := ch.key) fun k g hk => by
    simp only [hearK]
    rw [if_neg (by omega)]
  obtain ⟨b1, b2⟩ := prt_high (hs := hs) (l := .change n ch ahead) (e := ch.key + 1) fun k g hk => by
    simp only [hearK]
    rw [if_neg (by omega)]
  rw [prt_succ e, a1, ek] at b1
  rw [fnd_succ e, a2, ek] at b2
  exact ⟨b1.symm, b2.symm⟩
end Cu

namespace Cu
open PySem PySem.Spec PyProof.Rows L2
abbrev s_Hearer_do : Stmt := (inClass (top 6) 7)
theorem sc_Hearer_do : FnScope ["self", "letter", "word", "number", "key", "kind", "worth", "ahead"] ["self", "letter"] (defScope s_Hearer_do) := ⟨rfl, rfl, rfl, by decide +kernel, rfl, by decide +kernel, by decide +kernel⟩

abbrev s_Hearer_freed : Stmt := (inClass (top 6) 9)
theorem sc_Hearer_freed : FnScope ["self", "key", "found", "number", "letter"] ["self", "key"] (defScope s_Hearer_freed) := ⟨rfl, rfl, rfl, by decide +kernel, rfl, by decide +kernel, by decide +kernel⟩

abbrev s_Hearer_changed : Stmt := (inClass (top 6) 6)
theorem sc_Hearer_changed : FnScope ["self", "letter", "word", "number", "key", "kind", "worth", "ahead"] ["self", "letter"] (defScope s_Hearer_changed) := ⟨rfl, rfl, rfl, by decide +kernel, rfl, by decide +kernel, by decide +kernel⟩

abbrev s_Hearer_copied : Stmt := (inClass (top 6) 8)
theorem sc_Hearer_copied : FnScope ["self", "letter", "word", "number", "begin", "rows", "found", "at", "worth", "last", "key"] ["self", "letter"] (defScope s_Hearer_copied) := ⟨rfl, rfl, rfl, by decide +kernel, rfl, by decide +kernel, by decide +kernel⟩

abbrev s_Hearer_hear : Stmt := (inClass (top 6) 5)
theorem sc_Hearer_hear : FnScope ["self", "letter", "key"] ["self", "letter"] (defScope s_Hearer_hear) := ⟨rfl, rfl, rfl, by decide +kernel, rfl, by decide +kernel, by decide +kernel⟩

section
variable {P : Program} {w : World} {K : PySem.W.Frag} {mg : Str → Option Value} {base : Heap} {C : Addr}
theorem ok_do (F : Md K C "do" "Hearer.do" s_Hearer_do) (Bm : Blt mg) (CHearer : CHr K C) : Mf P w K mg base 1 C "do" ["self", "letter"] (spDo K C) := by
  refine F.ok sc_Hearer_do (fun _ _ _ _ _ _ us hl => match us, hl with | [_, _], _ => rfl) len_of fun qual f cdv A0 outer s H vs Q E hr h => ?_
  obtain ⟨_, A, hs, c, v, n, ahead, ch, h, rfl, r, hc, rv, eh, k⟩ := h
  obtain ⟨a, rfl, ha⟩ := rv.chg_inv
  have hk : ch.key < hs.length := (List.getElem?_eq_some_iff.mp eh).1
  have a1 : atI (hs.map fun h => V.int h.worth) (ch.key : Int) = some (V.int h.worth) := at_of (j := ch.key) rfl (by rw [List.getElem?_map, eh]; rfl)
  refine ⟨_, (pss_cons (ps_asg (pv 1) (pg_tup rfl (pgs_cons (pg_name (i := 2) sc_Hearer_do.nd rfl (Or.inl rfl)) (pgs_cons (pg_name (i := 3) sc_Hearer_do.nd rfl (Or.inl rfl)) (pgs_cons (pg_name (i := 4) sc_Hearer_do.nd rfl (Or.inl rfl)) (pgs_cons (pg_name (i := 5) sc_Hearer_do.nd rfl (Or.inl rfl)) (pgs_cons (pg_name (i := 6) sc_Hearer_do.nd rfl (Or.inl rfl)) (pgs_cons (pg_name (i := 7) sc_Hearer_do.nd rfl (Or.inl rfl)) pgs_nil))))))))
      (pss_cons (ps_asg (pe_ifExp (pt_cmpR op_eq (pv 5) pe_str (nomark _)) (pv 6) (pe_op op_add (pe_ix ix_list (pe_fld (pv 0) rfl) (pv 4) (fun _ _ => rfl)) (pv 6))) (pg_sub (pe_fld (pv 0) rfl) (pv 4) set_list))
      (pss_cons (ps_asg (pv 3) (pg_sub (pe_fld (pv 0) rfl) (pv 4) set_list))
      (pss_one (ps_asg (pv 3) (pg_sub (pe_fld (pv 0) rfl) (pv 4) set_list)))))), ?_⟩
  refine ⟨_, rfl, a, _, rfl, SqT.of ha, rfl, _, _, rfl, _, _, rfl, _, _, rfl, _, _, rfl, _, _, rfl, _, _, rfl, rfl, ?_⟩
  have ix1 : ∀ {α : Type} (g : HK → α), ixN (hs.map g).length (ch.key : Int) = some ch.key := fun g => ixN_nat (by rw [List.length_map]; exact hk)
  refine ⟨_, rfl, rfl, _, rfl, ite2 (fun h0 => ?_) fun h0 => ?_⟩
  · rw [wd_set] at h0
    refine ⟨_, rfl, _, rfl, _, C, _, _, _, rfl, r.at_p hc, CHearer.cl, CHearer.n1, hF1 A, _, rfl, _, _, _, _, rfl, rfl, r.at1 hc, ix1 _, ?_⟩
    obtain ⟨c1, r1, t1⟩ := r.set1 hc eh ch.worth
    have hc1 := t1.now hc
    have e1 : (hs.set ch.key { h with worth := ch.worth })[ch.key]? = some { h with worth := ch.worth } := List.getElem?_set_self hk
    refine ⟨_, rfl, _, rfl, _, C, _, _, _, rfl, r1.at_p hc1, CHearer.cl, CHearer.n2, hF2 A, _, rfl, _, _, _, _, rfl, rfl, r1.at2 hc1, ixN_nat (by rw [List.length_map, List.length_set]; exact hk), ?_⟩
    obtain ⟨c2, r2, t2⟩ := r1.set2 hc1 e1 n
    rw [List.set_set] at r2
    have hc2 := t2.now hc1
    have e2 : (hs.set ch.key { h with worth := ch.worth, since := n })[ch.key]? = some { h with worth := ch.worth, since := n } := List.getElem?_set_self hk
    refine ⟨_, rfl, _, rfl, _, C, _, _, _, rfl, r2.at_p hc2, CHearer.cl, CHearer.n3, hF3 A, _, rfl, _, _, _, _, rfl, rfl, r2.at3 hc2, ixN_nat (by rw [List.length_map, List.length_set]; exact hk), ?_⟩
    obtain ⟨c3, r3, t3⟩ := r2.set3 hc2 e2 n
    rw [List.set_set] at r3
    refine k c3 _ ?_ ((t1.trans t2).trans t3)
    have ee : h.done n ch.set ch.worth = { h with worth := ch.worth, since := n, upto := n } := by
      unfold HK.done
      rw [if_pos h0]
    rw [ee]
    exact r3
  · rw [wd_set] at h0
    refine ⟨_, rfl, _, C, _, _, _, rfl, r.at_p hc, CHearer.cl, CHearer.n1, hF1 A, _, rfl, _, _, _, _, rfl, rfl, SqL.of (r.at1 hc), a1, _, rfl, _, _, rfl, rfl, _, rfl, _, C, _, _, _, rfl, r.at_p hc, CHearer.cl, CHearer.n1, hF1 A, _, rfl, _, _, _, _, rfl, rfl, r.at1 hc, ix1 _, ?_⟩
    obtain ⟨c1, r1, t1⟩ := r.set1 hc eh (h.worth + ch.worth)
    have hc1 := t1.now hc
    have e1 : (hs.set ch.key { h with worth := h.worth + ch.worth })[ch.key]? = some { h with worth := h.worth + ch.worth } := List.getElem?_set_self hk
    refine ⟨_, rfl, _, rfl, _, C, _, _, _, rfl, r1.at_p hc1, CHearer.cl, CHearer.n2, hF2 A, _, rfl, _, _, _, _, rfl, rfl, r1.at2 hc1, ixN_nat (by rw [List.length_map, List.length_set]; exact hk), ?_⟩
    obtain ⟨c2, r2, t2⟩ := r1.set2 hc1 e1 n
    rw [List.set_set] at r2
    have hc2 := t2.now hc1
    have e2 : (hs.set ch.key { h with worth := h.worth + ch.worth, since := n })[ch.key]? = some { h with worth := h.worth + ch.worth, since := n } := List.getElem?_set_self hk
    refine ⟨_, rfl, _, rfl, _, C, _, _, _, rfl, r2.at_p hc2, CHearer.cl, CHearer.n3, hF3 A, _, rfl, _, _, _, _, rfl, rfl, r2.at3 hc2, ixN_nat (by rw [List.length_map, List.length_set]; exact hk), ?_⟩
    obtain ⟨c3, r3, t3⟩ := r2.set3 hc2 e2 n
    rw [List.set_set] at r3
    refine k c3 _ ?_ ((t1.trans t2).trans t3)
    have ee : h.done n ch.set ch.worth = { h with worth := h.worth + ch.worth, since := n, upto := n } := by
      unfold HK.done
      rw [if_neg h0]
    rw [ee]
    exact r3
end
end Cu

namespace Cu
open PySem PySem.Spec PyProof.Rows L2
section
variable {P : Program} {w : World} {K : PySem.W.Frag} {mg : Str → Option Value} {base : Heap} {C : Addr}
theorem ok_freed (F : Md K C "freed" "Hearer.freed" s_Hearer_freed) (Bm : Blt mg) (CHearer : CHr K C) (m_Hearer_do : Mf P w K mg base 1 C "do" ["self", "letter"] (spDo K C)) : Mf P w K mg base 2 C "freed" ["self", "key"] (spFreed K C) := by
  refine F.ok sc_Hearer_freed (fun _ _ _ _ _ _ us hl => match us, hl with | [_, _], _ => rfl) len_of fun qual f cdv A0 outer s H vs Q E hr h => ?_
  obtain ⟨_, A, hs, c, k, h, rfl, r, hc, eh, wf, go⟩ := h
  have hk : k < hs.length := (List.getElem?_eq_some_iff.mp eh).1
  refine ⟨_, (pss_cons (ps_set (i := 2) sc_Hearer_freed.nd rfl (Or.inl rfl) (pe_lst pa_nil))
      (pss_cons (ps_for PassesOwn.never rfl (pi_list (pe_callB (call_sortedDIw rfl) rfl Bm.sorted (by decide +kernel) (pa_cons (pe_ix ix_list (pe_fld (pv 0) rfl) (pv 1) (fun _ _ => rfl)) pa_nil))) (pg_name (i := 3) sc_Hearer_freed.nd rfl (Or.inl rfl))
        (pss_cons (ps_set (i := 4) sc_Hearer_freed.nd rfl (Or.inl rfl) (pe_dget (hu_of hr) (pe_ix ix_list (pe_fld (pv 0) rfl) (pv 1) (fun _ _ => rfl)) (pv 3) (fun _ _ => rfl)))
        (pss_one (ps_if (pt_cmpR op_le (pv 3) (pe_ix ix_list (pe_fld (pv 0) rfl) (pv 1) (fun _ _ => rfl)) (nomark _))
          (pss_one (ps_expr (pe_dpop1 (pe_ix ix_list (pe_fld (pv 0) rfl) (pv 1) (fun _ _ => rfl)) (pv 3) ⟨rfl, rfl, rfl, rfl⟩)))
          (pss_one (ps_if (pt_cmpR op_le (pe_ix ix_tup (pv 4) pe_int (fun _ _ => rfl)) (pe_ix ix_list (pe_fld (pv 0) rfl) (pv 1) (fun _ _ => rfl)) (nomark _))
            (pss_cons (ps_expr (pe_dpop1 (pe_ix ix_list (pe_fld (pv 0) rfl) (pv 1) (fun _ _ => rfl)) (pv 3) ⟨rfl, rfl, rfl, rfl⟩))
            (pss_cons (ps_expr (pm (pv 0) CHearer.cl m_Hearer_do hr (pa_cons (pv 4) pa_nil)))
            (pss_one (ps_expr (pe_bm PySem.F.plainAttrs_list PySem.F.slot_list_append PySem.F.type_list_append mt_append (pv 2) (pa_cons (pv 3) pa_nil))))))
            pss_nil))))))
      (pss_one (ps_ret (pv 2))))), ?_⟩
  refine ⟨(by show 0 ≤ sizeLine; decide), fun p hp => ?_⟩
  have t1 := (Tr.refl H c).new (o := .lst []) hp nl
  have hc1 := (t1.now hc).tail
  have r1 := r.mono t1.mono
  obtain ⟨d, kvs, ed, hd, ok⟩ := r1.dict hc1 eh
  have ad : atI (A.ds.map V.ref) (k : Int) = some (.ref d) := at_of (j := k) rfl (by rw [List.getElem?_map, ed]; rfl)
  refine ⟨_, rfl, _, C, _, _, _, rfl, r1.at_p hc1, CHearer.cl, CHearer.n4, hF4 A, _, rfl, _, _, _, _, rfl, rfl, SqL.of (r1.at4 hc1), ad, d, kvs, asN h.aside, rfl, .inl hd, ok.keys, by rw [asN, List.length_map]; exact Nat.le_trans (Nat.le_of_lt wf.few) (by decide), fun ys q hperm hsort hq => ?_⟩
  have e := srt_eq hperm hsort
  subst e
  have t2 := t1.new (o := .lst ((srt (asN h.aside)).map V.int)) hq nl
  have hnd : (srt (asN h.aside)).Nodup := (srt_perm _).nodup_iff.mpr wf.nd
  have hsz : (srt (asN h.aside)).length < 122 := by rw [(srt_perm _).length_eq, asN, List.length_map]; exact wf.few
  refine ⟨q, rfl, ⟨_, SqL.of upd_same⟩, for_list (K := K) (a := q) (xs := (srt (asN h.aside)).map V.int) (fun i σ H2 => ∃ (v3 v4 : Option V) (c' : Lg) (st : HK × List Int), σ = [some (.ref A.p), some (.int k), some (.ref p), v3, v4] ∧
      st = ((srt (asN h.aside)).take i).foldl HK.fstep (h, []) ∧ HR K C A (hs.set k st.1) H2 c' ∧ Tr H c H2 ((q, .lst ((srt (asN h.aside)).map V.int)) :: (p, .lst (st.2.map V.int)) :: c'))
    ⟨none, none, c, (h, []), rfl, rfl, by rw [set_back eh]; exact r.mono t2.mono, t2⟩ (fun i σ H2 _ ⟨_, _, _, _, _, _, _, t⟩ => SqL.of (t.now hc).head) ?_ ?_⟩
  · rintro i x σ H2 hi ⟨v3, v4, c', st, rfl, est, r2, t3⟩
    rw [List.getElem?_map] at hi
    obtain ⟨n, en, rfl⟩ : ∃ n, (srt (asN h.aside))[i]? = some n ∧ x = V.int n := by
      cases e1 : (srt (asN h.aside))[i]? with
      | none =>
        rw [e1] at hi
        cases hi
      | some n =>
        rw [e1] at hi
        exact ⟨n, rfl, (Option.some.inj hi).symm⟩
    have hil : i < 122 := by
      have := (List.getElem?_eq_some_iff.mp en).1
      omega
    have hh := t3.now hc
    have hc3 := hh.tail.tail
    have eg : (hs.set k st.1)[k]? = some st.1 := List.getElem?_set_self hk
    have hnot : n ∉ (srt (asN h.aside)).take i := fun hm => by
      obtain ⟨j, hj⟩ := List.getElem?_of_mem hm
      have hji : j < i := by
        have := (List.getElem?_eq_some_iff.mp hj).1
        rw [List.length_take] at this
        omega
      rw [List.getElem?_take_of_lt hji] at hj
      have := nd_ix hnd hj en
      omega
    have hin : n ∈ asN h.aside := (srt_perm _).mem_iff.mp (List.mem_of_getElem? en)
    obtain ⟨a, ha, ean⟩ := findA_some hin
    have ha2 : findA st.1.aside n = some a := by
      rw [est, fold_find hnot]
      exact ha
    have est' : HK.fstep st n = ((srt (asN h.aside)).take (i + 1)).foldl HK.fstep (h, []) := by
      rw [take_snoc en, List.foldl_append, ← est]
      rfl
    have hst2 : st.2.length ≤ i := by
      have := fold_len (l := (srt (asN h.aside)).take i) (st := (h, []))
      rw [← est] at this
      refine Nat.le_trans this ?_
      rw [List.length_take]
      show 0 + _ ≤ _
      omega
    obtain ⟨d2, kvs2, ed2, hd2, ok2⟩ := r2.dict hc3 eg
    rw [ed] at ed2
    cases ed2
    obtain ⟨v, hv, rv⟩ := ok2.find ha2
    obtain ⟨av, rfl, hav⟩ := Rp.chg_inv rv
    have a3 : atI ((hs.set k st.1).map fun h => V.int h.upto) (k : Int) = some (V.int st.1.upto) := at_of (j := k) rfl (by rw [List.getElem?_map, eg]; rfl)
    have dg : DGet H2 d (.int n) (some (.ref av)) := by
      rw [← hv]
      exact DGet.k (k := Sum.inl n) hd2
    -- letter = self.aside[key][number]
    refine ⟨_, rfl, _, C, _, _, _, rfl, r2.at_p hc3, CHearer.cl, CHearer.n4, hF4 A, _, rfl, _, _, _, _, rfl, rfl, SqL.of (r2.at4 hc3), ad, _, rfl, d, _, rfl, dg, ?_⟩
    refine ⟨_, rfl, _, rfl, _, C, _, _, _, rfl, r2.at_p hc3, CHearer.cl, CHearer.n3, hF3 A, _, rfl, _, _, _, _, rfl, rfl, SqL.of (r2.at3 hc3), a3, _, _, rfl, rfl, _, rfl, ite2 (fun h0 => ?_) fun h0 => ?_⟩
    · -- number <= upto: dropped
      have h0' := of_decide_eq_true h0
      refine ⟨_, rfl, _, C, _, _, _, rfl, r2.at_p hc3, CHearer.cl, CHearer.n4, hF4 A, _, rfl, _, _, _, _, rfl, rfl, SqL.of (r2.at4 hc3), ad, d, rfl, .inl ⟨_, .inl hd2⟩, _, rfl, _, Sum.inl n, _, hd2, rfl, hv, ?_⟩
      obtain ⟨c4, r4, t4⟩ := r2.set4 hc3 eg ed (ok2.drop n)
      rw [List.set_set] at r4
      refine ⟨_, _, c4, HK.fstep st n, rfl, est', ?_, ?_⟩
      · have : HK.fstep st n = ({ st.1 with aside := dropA st.1.aside n }, st.2) := by
          unfold HK.fstep
          rw [ha2]
          dsimp only
          rw [if_pos h0']
        rw [this]
        exact r4
      · have : HK.fstep st n = ({ st.1 with aside := dropA st.1.aside n }, st.2) := by
          unfold HK.fstep
          rw [ha2]
          dsimp only
          rw [if_pos h0']
        rw [this]
        exact t3.trans (t4.left (D := [(q, .lst ((srt (asN h.aside)).map V.int)), (p, .lst (st.2.map V.int))]))
    · have h0' := ndec h0
      refine ⟨_, rfl, _, _, _, _, rfl, rfl, SqT.of hav, rfl, _, rfl, _, C, _, _, _, rfl, r2.at_p hc3, CHearer.cl, CHearer.n3, hF3 A, _, rfl, _, _, _, _, rfl, rfl, SqL.of (r2.at3 hc3), a3, _, _, rfl, rfl, _, rfl, ite2 (fun h1 => ?_) fun h1 => ?_⟩
      · -- it can be done
        have h1' := of_decide_eq_true h1
        refine ⟨_, rfl, _, C, _, _, _, rfl, r2.at_p hc3, CHearer.cl, CHearer.n4, hF4 A, _, rfl, _, _, _, _, rfl, rfl, SqL.of (r2.at4 hc3), ad, d, rfl, .inl ⟨_, .inl hd2⟩, _, rfl, _, Sum.inl n, _, hd2, rfl, hv, ?_⟩
        obtain ⟨c4, r4, t4⟩ := r2.set4 hc3 eg ed (ok2.drop n)
        rw [List.set_set] at r4
        have t5 := t3.trans (t4.left (D := [(q, .lst ((srt (asN h.aside)).map V.int)), (p, .lst (st.2.map V.int))]))
        have hh5 := t5.now hc
        have hc5 := hh5.tail.tail
        have e5 : (hs.set k { st.1 with aside := dropA st.1.aside n })[(asL k a |> fun _ => k)]? = some { st.1 with aside := dropA st.1.aside n } := List.getElem?_set_self hk
        refine ⟨_, rfl, A.p, _, _, rfl, r4.at_p hc5, hFno, _, rfl, rfl, A, _, c4, .ref av, a.n, a.ahead, ⟨k, false, a.worth⟩, _, rfl, r4, hc5, rv.mono t4.mono, e5, fun c6 H6 r6 t6 => ?_⟩
        have t7 := t5.trans (t6.left (D := [(q, .lst ((srt (asN h.aside)).map V.int)), (p, .lst (st.2.map V.int))]))
        have hh7 := t7.now hc
        refine ⟨_, rfl, .inl ⟨rfl, _, SqL.of hh7.tail.head⟩, _, rfl, _, _, _, rfl, rfl, hh7.tail.head, by rw [List.length_map]; exact small1000 (by omega), ?_⟩
        have t8 := (t7.swap2.put (o' := .lst (st.2.map V.int ++ [.int n])) hc nl).swap2
        have e8 : HK.fstep st n = (({ st.1 with aside := dropA st.1.aside n } : HK).done a.n false a.worth, st.2 ++ [n]) := by
          unfold HK.fstep
          rw [ha2]
          dsimp only
          rw [if_neg h0', if_pos h1']
        have ns := hh7.swap2.mono_put (o' := .lst (st.2.map V.int ++ [.int n]))
        refine ⟨_, _, c6, HK.fstep st n, rfl, est', ?_, ?_⟩
        · rw [e8]
          have : (hs.set k { st.1 with aside := dropA st.1.aside n }).set k (({ st.1 with aside := dropA st.1.aside n } : HK).done a.n false a.worth) = hs.set k (({ st.1 with aside := dropA st.1.aside n } : HK).done a.n false a.worth) := List.set_set ..
          rw [← this]
          exact r6.mono ns
        · rw [e8, List.map_append]
          exact t8
      · have h1' := ndec h1
        have e8 : HK.fstep st n = st := by
          unfold HK.fstep
          rw [ha2]
          dsimp only
          rw [if_neg h0', if_neg h1']
        exact ⟨_, _, c', st, rfl, by rw [← est', e8], r2, t3⟩
  · rintro σ H2 ⟨v3, v4, c', st, rfl, est, r2, t3⟩
    have e1 : st = h.free := by
      rw [est, List.take_of_length_le (by rw [List.length_map]; exact Nat.le_refl _)]
      rfl
    subst e1
    exact ⟨_, rfl, go p c' H2 r2 t3.tail⟩
theorem ok_changed (F : Md K C "changed" "Hearer.changed" s_Hearer_changed) (Bm : Blt mg) (CHearer : CHr K C) (m_Hearer_do : Mf P w K mg base 1 C "do" ["self", "letter"] (spDo K C)) (m_Hearer_freed : Mf P w K mg base 2 C "freed" ["self", "key"] (spFreed K C)) :
    Mf P w K mg base 3 C "changed" ["self", "letter"] (spChanged K C) := by
  refine F.ok sc_Hearer_changed (fun _ _ _ _ _ _ us hl => match us, hl with | [_, _], _ => rfl) len_of fun qual f cdv A0 outer s H vs Q E hr h => ?_
  obtain ⟨_, A, hs, c, v, n, ahead, ch, h, rfl, r, hc, rv, eh, wf, go⟩ := h
  obtain ⟨a, rfl, ha⟩ := rv.chg_inv
  have hk : ch.key < hs.length := (List.getElem?_eq_some_iff.mp eh).1
  have a3 : atI (hs.map fun h => V.int h.upto) (ch.key : Int) = some (V.int h.upto) := at_of (j := ch.key) rfl (by rw [List.getElem?_map, eh]; rfl)
  refine ⟨_, (pss_cons (ps_asg (pv 1) (pg_tup rfl (pgs_cons (pg_name (i := 2) sc_Hearer_changed.nd rfl (Or.inl rfl)) (pgs_cons (pg_name (i := 3) sc_Hearer_changed.nd rfl (Or.inl rfl)) (pgs_cons (pg_name (i := 4) sc_Hearer_changed.nd rfl (Or.inl rfl)) (pgs_cons (pg_name (i := 5) sc_Hearer_changed.nd rfl (Or.inl rfl)) (pgs_cons (pg_name (i := 6) sc_Hearer_changed.nd rfl (Or.inl rfl)) (pgs_cons (pg_name (i := 7) sc_Hearer_changed.nd rfl (Or.inl rfl)) pgs_nil))))))))
      (pss_cons (ps_if (pt_cmpR op_le (pv 3) (pe_ix ix_list (pe_fld (pv 0) rfl) (pv 4) (fun _ _ => rfl)) (nomark _))
        (pss_one (ps_ret (pe_lst pa_nil)))
        pss_nil)
      (pss_cons (ps_if (PW.pt (pw_and (pt_cmpR op_eq (pv 5) pe_str (nomark _)) (pw_and1 (pt_cmpR op_lt (pe_ix ix_list (pe_fld (pv 0) rfl) (pv 4) (fun _ _ => rfl)) (pv 7) (nomark _)))))
        (pss_cons (ps_dput (hu_of hr) (pe_ix ix_list (pe_fld (pv 0) rfl) (pv 4) (fun _ _ => rfl)) (pv 3) (pv 1) rfl)
        (pss_one (ps_ret (pe_lst pa_nil))))
        pss_nil)
      (pss_cons (ps_expr (pm (pv 0) CHearer.cl m_Hearer_do hr (pa_cons (pv 1) pa_nil)))
      (pss_one (ps_ret (pe_op op_cat (pe_lst (pa_cons (pv 3) pa_nil)) (pm (pv 0) CHearer.cl m_Hearer_freed hr (pa_cons (pv 4) pa_nil))))))))), ?_⟩
  refine ⟨_, rfl, a, _, rfl, SqT.of ha, rfl, _, _, rfl, _, _, rfl, _, _, rfl, _, _, rfl, _, _, rfl, _, _, rfl, rfl, ?_⟩
  refine ⟨_, rfl, _, rfl, _, C, _, _, _, rfl, r.at_p hc, CHearer.cl, CHearer.n3, hF3 A, _, rfl, _, _, _, _, rfl, rfl, SqL.of (r.at3 hc), a3, _, _, rfl, rfl, _, rfl, ite2 (fun h0 => ?_) fun h0 => ?_⟩
  · -- known farther
    refine ⟨(by show 0 ≤ sizeLine; decide), fun l hl => ?_⟩
    have e : h.chg n ch ahead = (h, []) := by
      unfold HK.chg
      rw [if_pos (of_decide_eq_true h0)]
    rw [e] at go
    have t := (Tr.refl H c).new (o := .lst []) hl nl
    exact go l c _ (by rw [set_back eh]; exact r.mono t.mono) t
  have h0' := ndec h0
  have doit : (¬ (ch.set = false ∧ h.upto < (ahead : Int))) → h.chg n ch ahead = (((h.done n ch.set ch.worth).free).1, (n : Int) :: ((h.done n ch.set ch.worth).free).2) := fun q => by
    unfold HK.chg
    rw [if_neg h0', if_neg q]
  -- what is done behind the two tests
  have rest : (¬ (ch.set = false ∧ h.upto < (ahead : Int))) → ∀ (c4 : Lg) (H4 : Hp), HR K C A (hs.set ch.key (h.done n ch.set ch.worth)) H4 c4 → Tr H c H4 c4 → ∀ l, H4 l = none → ∀ (r5 : Addr) (c5 : Lg) (H5 : Hp),
      HR K C A (hs.set ch.key (h.done n ch.set ch.worth).free.1) H5 c5 → Tr (upd H4 l (.lst [.int n])) ((l, .lst [.int n]) :: c4) H5 ((r5, .lst ((h.done n ch.set ch.worth).free.2.map V.int)) :: (l, .lst [.int n]) :: c5) → ∀ q, H5 q = none →
      Q (.ref q) (upd H5 q (.lst ([.int n] ++ (h.done n ch.set ch.worth).free.2.map V.int))) := fun hq c4 H4 r4 t4 l hl r5 c5 H5 r6 t6 q hq2 => by
    have t7 := (t4.new (o := .lst [.int n]) hl nl).trans t6
    have t8 := t7.new (o := .lst ([.int n] ++ (h.done n ch.set ch.worth).free.2.map V.int)) hq2 nl
    rw [doit hq] at go
    refine go q c5 _ (r6.mono (Mono.new hq2)) ?_
    show Tr H c _ ((q, .lst ([.int n] ++ (h.done n ch.set ch.worth).free.2.map V.int)) :: c5)
    exact t8.sub (List.Sublist.cons_cons _ (List.sublist_append_right [_, _] c5))
  refine ⟨_, rfl, rfl, _, rfl, ?_⟩
  rw [wd_add]
  have wf' : Wf (h.done n ch.set ch.worth) := ⟨wf.nd, wf.few⟩
  have e4 : (hs.set ch.key (h.done n ch.set ch.worth))[ch.key]? = some (h.done n ch.set ch.worth) := List.getElem?_set_self hk
  have tail : (¬ (ch.set = false ∧ h.upto < (ahead : Int))) → ∀ (c4 : Lg) (H4 : Hp), HR K C A (hs.set ch.key (h.done n ch.set ch.worth)) H4 c4 → Tr H c H4 c4 → ∀ l, H4 l = none →
      spFreed K C [.ref A.p, .int ch.key] (upd H4 l (.lst [.int n])) (fun y H5 => rCat (.ref l) y H5 Q) E0 := fun hq c4 H4 r4 t4 l hl => by
    have t5 := (Tr.refl H4 c4).new (o := .lst [.int n]) hl nl
    have hc4 := t4.now hc
    refine ⟨rfl, A, _, c4, ch.key, _, rfl, r4.mono t5.mono, (t5.now hc4).tail, e4, wf', fun r5 c5 H5 r6 t6 => ?_⟩
    rw [List.set_set] at r6
    have t7 : Tr (upd H4 l (.lst [.int n])) ((l, .lst [.int n]) :: c4) H5 ((r5, .lst ((h.done n ch.set ch.worth).free.2.map V.int)) :: (l, .lst [.int n]) :: c5) := (t6.left (D := [(l, .lst [.int n])])).swap2
    have hh7 := t7.now (t5.now hc4)
    refine ⟨l, r5, _, _, rfl, rfl, hh7.tail.head, hh7.head, ?_, fun q hq2 => rest hq c4 H4 r4 t4 l hl r5 c5 H5 r6 t7 q hq2⟩
    have : (h.done n ch.set ch.worth).free.2.length ≤ 122 := by
      refine Nat.le_trans fold_len ?_
      rw [(srt_perm _).length_eq, asN, List.length_map]
      exact Nat.le_trans (Nat.add_le_add (Nat.le_refl _) (Nat.le_of_lt wf'.few)) (by simp)
    rw [List.length_map]
    exact Nat.le_trans (show 1 + _ ≤ 2000 by omega) (by decide)
  cases hset : ch.set with
  | true =>
    have hq : ¬ (ch.set = false ∧ h.upto < (ahead : Int)) := fun q => by
      rw [hset] at q
      cases q.1
    refine ⟨_, rfl, A.p, _, _, rfl, r.at_p hc, hFno, _, rfl, rfl, A, hs, c, .ref a, n, ahead, ch, h, rfl, r, hc, rv, eh, fun c4 H4 r4 t4 => ?_⟩
    refine ⟨_, rfl, (by show 1 ≤ sizeLine; decide), fun l hl => ?_⟩
    have hc4 := t4.now hc
    exact ⟨_, rfl, A.p, _, _, rfl, by rw [upd_ne (ne_of_none (r4.at_p hc4) hl)]; exact r4.at_p hc4, hFno, _, rfl, tail hq c4 H4 r4 t4 l hl⟩
  | false =>
    refine ⟨_, rfl, _, C, _, _, _, rfl, r.at_p hc, CHearer.cl, CHearer.n3, hF3 A, _, rfl, _, _, _, _, rfl, rfl, SqL.of (r.at3 hc), a3, _, rfl, _, _, rfl, rfl, _, rfl, ite2 (fun h1 => ?_) fun h1 => ?_⟩
    · -- put aside
      have h1' := of_decide_eq_true h1
      obtain ⟨d, kvs, ed, hd, ok⟩ := r.dict hc eh
      have ad : atI (A.ds.map V.ref) (ch.key : Int) = some (.ref d) := at_of (j := ch.key) rfl (by rw [List.getElem?_map, ed]; rfl)
      have el : asL ch.key ⟨n, ch.worth, ahead⟩ = .change n ch ahead := by
        unfold asL
        cases ch
        cases hset
        rfl
      obtain ⟨c4, r4, t4⟩ := r.set4 hc eh ed (ok.put (a := ⟨n, ch.worth, ahead⟩) (v := .ref a) (by rw [el]; exact rv))
      have hlen : kvs.length < sizeLine := by
        rw [ok.len]
        exact small1000 (by have := wf.few; omega)
      refine ⟨_, rfl, _, rfl, _, C, _, _, _, rfl, r.at_p hc, CHearer.cl, CHearer.n4, hF4 A, _, rfl, _, _, _, _, rfl, rfl, SqL.of (r.at4 hc), ad, _, rfl, d, _, rfl, DPut.k (k := Sum.inl (n : Int)) hd hlen, ?_⟩
      refine ⟨(by show 0 ≤ sizeLine; decide), fun l hl => ?_⟩
      have e : h.chg n ch ahead = ({ h with aside := putA h.aside ⟨n, ch.worth, ahead⟩ }, []) := by
        unfold HK.chg
        rw [if_neg h0', if_pos ⟨hset, h1'⟩]
      rw [e] at go
      exact go l c4 _ (r4.mono (Mono.new hl)) (t4.new hl nl)
    · have h1' := ndec h1
      have hq : ¬ (ch.set = false ∧ h.upto < (ahead : Int)) := fun q => h1' q.2
      refine ⟨_, rfl, A.p, _, _, rfl, r.at_p hc, hFno, _, rfl, rfl, A, hs, c, .ref a, n, ahead, ch, h, rfl, r, hc, rv, eh, fun c4 H4 r4 t4 => ?_⟩
      refine ⟨_, rfl, (by show 1 ≤ sizeLine; decide), fun l hl => ?_⟩
      have hc4 := t4.now hc
      exact ⟨_, rfl, A.p, _, _, rfl, by rw [upd_ne (ne_of_none (r4.at_p hc4) hl)]; exact r4.at_p hc4, hFno, _, rfl, tail hq c4 H4 r4 t4 l hl⟩
end
end Cu

namespace Cu
open PySem PySem.Spec PyProof.Rows L2
section
variable {P : Program} {w : World} {K : PySem.W.Frag} {mg : Str → Option Value} {base : Heap} {C : Addr}
theorem ok_copied (F : Md K C "copied" "Hearer.copied" s_Hearer_copied) (Bm : Blt mg) (CHearer : CHr K C) (m_Hearer_freed : Mf P w K mg base 2 C "freed" ["self", "key"] (spFreed K C)) : Mf P w K mg base 3 C "copied" ["self", "letter"] (spCopied K C) := by
  refine F.ok sc_Hearer_copied (fun _ _ _ _ _ _ us hl => match us, hl with | [_, _], _ => rfl) len_of fun qual f cdv A0 outer s H vs Q E hr h => ?_
  obtain ⟨_, A, hs, c, v, n, b, rows, rfl, r, hc, rv, h8, wf, hb, go⟩ := h
  obtain ⟨a, t, xs, rfl, ha, ht, hxs, hrow⟩ := rv.part_inv
  refine ⟨_, (pss_cons (ps_asg (pv 1) (pg_tup rfl (pgs_cons (pg_name (i := 2) sc_Hearer_copied.nd rfl (Or.inl rfl)) (pgs_cons (pg_name (i := 3) sc_Hearer_copied.nd rfl (Or.inl rfl)) (pgs_cons (pg_name (i := 4) sc_Hearer_copied.nd rfl (Or.inl rfl)) (pgs_cons (pg_name (i := 5) sc_Hearer_copied.nd rfl (Or.inl rfl)) pgs_nil))))))
      (pss_cons (ps_set (i := 6) sc_Hearer_copied.nd rfl (Or.inl rfl) (pe_lst pa_nil))
      (pss_cons (ps_for PassesOwn.never rfl (pi_enumT rfl Bm.enumerate (pa_cons (pv 5) pa_nil)) (pg_tup rfl (pgs_cons (pg_name (i := 7) sc_Hearer_copied.nd rfl (Or.inl rfl)) (pgs_cons (pg_tup rfl (pgs_cons (pg_name (i := 8) sc_Hearer_copied.nd rfl (Or.inl rfl)) (pgs_cons (pg_name (i := 9) sc_Hearer_copied.nd rfl (Or.inl rfl)) pgs_nil))) pgs_nil)))
        (pss_cons (ps_set (i := 10) sc_Hearer_copied.nd rfl (Or.inl rfl) (pe_op op_add (pv 4) (pv 7)))
        (pss_one (ps_if (pt_cmpR op_gt (pv 3) (pe_ix ix_list (pe_fld (pv 0) rfl) (pv 10) (fun _ _ => rfl)) (nomark _))
          (pss_cons (ps_asg (pv 8) (pg_sub (pe_fld (pv 0) rfl) (pv 10) set_list))
          (pss_cons (ps_asg (pv 9) (pg_sub (pe_fld (pv 0) rfl) (pv 10) set_list))
          (pss_cons (ps_asg (pv 3) (pg_sub (pe_fld (pv 0) rfl) (pv 10) set_list))
          (pss_one (ps_expr (pe_bm PySem.F.plainAttrs_list PySem.F.slot_list_extend PySem.F.type_list_extend mt_extend (pv 6) (pa_cons (pm (pv 0) CHearer.cl m_Hearer_freed hr (pa_cons (pv 10) pa_nil)) pa_nil)))))))
          pss_nil))))
      (pss_one (ps_ret (pv 6)))))), ?_⟩
  refine ⟨_, rfl, a, _, rfl, SqT.of ha, rfl, _, _, rfl, _, _, rfl, _, _, rfl, _, _, rfl, rfl, ?_⟩
  refine ⟨(by show 0 ≤ sizeLine; decide), fun p hp => ?_⟩
  have t1 := (Tr.refl H c).new (o := .lst []) hp nl
  obtain ⟨a1, a2⟩ := prt_low (hs := hs) (l := .part n b rows) (b := b) fun k g hk => by
    simp only [hearK]
    rw [if_neg (by omega)]
  obtain ⟨b1, b2⟩ := prt_high (hs := hs) (l := .part n b rows) (e := b + rows.length) fun k g hk => by
    simp only [hearK]
    rw [if_pos (by omega), List.getElem?_eq_none (by omega)]
  refine ⟨_, rfl, t, xs, rfl, SqT.of (t1.mono _ _ ht trivial), for_it (walk_enumT (xs := xs)) (fun i σ H2 => ∃ (v7 v8 v9 v10 : Option V) (c' : Lg), σ = [some (.ref A.p), some (.ref a), some (.str "part"), some (.int n), some (.int b), some (.ref t), some (.ref p), v7, v8, v9, v10] ∧
      HR K C A (prt hs (.part n b rows) (b + i)) H2 c' ∧ Tr H c H2 ((p, .lst ((fnd hs (.part n b rows) (b + i)).map V.int)) :: c'))
    ⟨none, none, none, none, c, rfl, by rw [Nat.add_zero, a1]; exact r.mono t1.mono, by rw [Nat.add_zero, a2]; exact t1⟩ (fun i σ H2 _ ⟨_, _, _, _, _, _, _, t2⟩ => SqT.of (t2.mono _ _ ht trivial)) ?_ ?_⟩
  · rintro i x σ H2 H3 hi ⟨v7, v8, v9, v10, c', rfl, r2, t2⟩ ⟨T, x1, y1, rfl, hT, rfl, e1, e2⟩
    cases e1
    have hi' : i < rows.length := by omega
    obtain ⟨rw', er⟩ : ∃ r, rows[i]? = some r := ⟨rows[i], List.getElem?_eq_getElem hi'⟩
    obtain ⟨q, eq, hq⟩ := hrow i rw' er
    have e2 : xs[i]? = some y1 := e2
    rw [eq] at e2
    cases e2
    have t3 := t2.old (o := .tup [.int (i : Nat), .ref q]) hT
    have r3 := r2.mono (Mono.new (o := .tup [.int (i : Nat), .ref q]) hT)
    have hbi : b + i < hs.length := by omega
    obtain ⟨g, eg⟩ : ∃ g, hs[b + i]? = some g := ⟨hs[b + i], List.getElem?_eq_getElem hbi⟩
    have eg2 : (prt hs (.part n b rows) (b + i))[b + i]? = some g := by
      rw [prt_get eg, if_neg (Nat.lt_irrefl _)]
    have eK : hearK (b + i) g (.part n b rows) = g.row n rw'.1 rw'.2 := by
      simp only [hearK]
      rw [if_pos (Nat.le_add_right _ _), Nat.add_sub_cancel_left, er]
    have eP : prt hs (.part n b rows) (b + (i + 1)) = (prt hs (.part n b rows) (b + i)).set (b + i) (g.row n rw'.1 rw'.2).1 := by
      rw [← Nat.add_assoc, prt_succ eg, eK]
    have eF : fnd hs (.part n b rows) (b + (i + 1)) = fnd hs (.part n b rows) (b + i) ++ (g.row n rw'.1 rw'.2).2 := by
      rw [← Nat.add_assoc, fnd_succ eg, eK]
    have ez : ((b : Int) + (i : Nat)) = ((b + i : Nat) : Int) := by omega
    have hh := t3.now hc
    have hc3 := hh.tail
    have plen := prt_len hs (.part n b rows) (b + i)
    have a3 : atI ((prt hs (.part n b rows) (b + i)).map fun h => V.int h.upto) ((b : Int) + (i : Nat)) = some (V.int g.upto) := at_of (j := b + i) ez (by rw [List.getElem?_map, eg2]; rfl)
    refine ⟨T, _, rfl, SqT.of upd_same, rfl, _, _, rfl, _, _, rfl, q, _, rfl, SqT.of (t3.mono _ _ hq trivial), rfl, _, _, rfl, _, _, rfl, rfl, rfl, ?_⟩
    refine ⟨_, rfl, _, rfl, _, _, rfl, rfl, ?_⟩
    refine ⟨_, rfl, _, rfl, _, C, _, _, _, rfl, r3.at_p hc3, CHearer.cl, CHearer.n3, hF3 A, _, rfl, _, _, _, _, rfl, rfl, SqL.of (r3.at3 hc3), a3, _, _, rfl, rfl, _, rfl, ite2 (fun h0 => ?_) fun h0 => ?_⟩
    · have h0' := of_decide_eq_true h0
      have eRow : g.row n rw'.1 rw'.2 = ({ g with worth := rw'.1, since := rw'.2, upto := n } : HK).free := by
        unfold HK.row
        rw [if_pos h0']
      have ix1 : ∀ {α : Type} (gs : List HK) (f : HK → α), gs.length = hs.length → ixN (gs.map f).length ((b : Int) + (i : Nat)) = some (b + i) := fun gs f hl => ixN_of ez (by rw [List.length_map, hl]; exact hbi)
      refine ⟨_, rfl, _, rfl, _, C, _, _, _, rfl, r3.at_p hc3, CHearer.cl, CHearer.n1, hF1 A, _, rfl, _, _, _, _, rfl, rfl, r3.at1 hc3, ix1 _ _ plen, ?_⟩
      obtain ⟨c4, r4, t4⟩ := r3.set1 hc3 eg2 rw'.1
      have hc4 := t4.now hc3
      have e4 : ((prt hs (.part n b rows) (b + i)).set (b + i) { g with worth := rw'.1 })[b + i]? = some { g with worth := rw'.1 } := List.getElem?_set_self (by omega)
      refine ⟨_, rfl, _, rfl, _, C, _, _, _, rfl, r4.at_p hc4, CHearer.cl, CHearer.n2, hF2 A, _, rfl, _, _, _, _, rfl, rfl, r4.at2 hc4, ix1 _ _ (by rw [List.length_set]; exact plen), ?_⟩
      obtain ⟨c5, r5, t5⟩ := r4.set2 hc4 e4 rw'.2
      rw [List.set_set] at r5
      have hc5 := t5.now hc4
      have e5 : ((prt hs (.part n b rows) (b + i)).set (b + i) { g with worth := rw'.1, since := rw'.2 })[b + i]? = some { g with worth := rw'.1, since := rw'.2 } := List.getElem?_set_self (by omega)
      refine ⟨_, rfl, _, rfl, _, C, _, _, _, rfl, r5.at_p hc5, CHearer.cl, CHearer.n3, hF3 A, _, rfl, _, _, _, _, rfl, rfl, r5.at3 hc5, ix1 _ _ (by rw [List.length_set]; exact plen), ?_⟩
      obtain ⟨c6, r6, t6⟩ := r5.set3 hc5 e5 n
      rw [List.set_set] at r6
      have hc6 := t6.now hc5
      have e6 : ((prt hs (.part n b rows) (b + i)).set (b + i) { g with worth := rw'.1, since := rw'.2, upto := n })[b + i]? = some { g with worth := rw'.1, since := rw'.2, upto := n } := List.getElem?_set_self (by omega)
      have t7 := t3.trans (((t4.trans t5).trans t6).left (D := [(p, .lst ((fnd hs (.part n b rows) (b + i)).map V.int))]))
      have hh7 := t7.now hc
      have wfg : Wf ({ g with worth := rw'.1, since := rw'.2, upto := n } : HK) := ⟨(wf g (List.mem_of_getElem? eg)).nd, (wf g (List.mem_of_getElem? eg)).few⟩
      refine ⟨_, rfl, .inl ⟨rfl, _, SqL.of hh7.head⟩, _, rfl, A.p, _, _, rfl, r6.at_p hc6, hFno, _, rfl, rfl, A, _, c6, b + i, _, congrArg (fun z => [V.ref A.p, V.int z]) ez, r6, hc6, e6, wfg, fun r8 c8 H8 q8 t8 => ?_⟩
      rw [List.set_set] at q8
      have t9 := (t7.trans (t8.left (D := [(p, .lst ((fnd hs (.part n b rows) (b + i)).map V.int))])))
      have hh9 := t9.now hc
      refine ⟨p, r8, _, _, rfl, rfl, hh9.head, hh9.tail.head, ?_, ?_⟩
      · have := fnd_len (l := .part n b rows) (m := b + i) wf h8
        have := free_len wfg
        rw [List.length_map, List.length_map]
        exact Nat.le_trans (show _ ≤ 2000 by omega) (by decide)
      · have t10 := t9.put (o' := .lst ((fnd hs (.part n b rows) (b + i)).map V.int ++ ({ g with worth := rw'.1, since := rw'.2, upto := n } : HK).free.2.map V.int)) hc nl
        refine ⟨_, _, _, _, c8, rfl, ?_, ?_⟩
        · rw [eP, eRow]
          exact q8.mono hh9.mono_put
        · rw [eF, eRow, List.map_append]
          exact t10.sub (List.Sublist.cons_cons _ (List.sublist_cons_self _ _))
    · have h0' := ndec h0
      have eRow : g.row n rw'.1 rw'.2 = (g, []) := by
        unfold HK.row
        rw [if_neg h0']
      refine ⟨_, _, _, _, c', rfl, ?_, ?_⟩
      · rw [eP, eRow, set_back eg2]
        exact r3
      · rw [eF, eRow, List.append_nil]
        exact t3
  · rintro σ H2 ⟨v7, v8, v9, v10, c', rfl, r2, t2⟩
    rw [hxs, b1] at r2
    rw [hxs, b2] at t2
    exact ⟨_, rfl, go p c' H2 r2 t2⟩
theorem ok_hear (F : Md K C "hear" "Hearer.hear" s_Hearer_hear) (Bm : Blt mg) (CHearer : CHr K C) (m_Hearer_changed : Mf P w K mg base 3 C "changed" ["self", "letter"] (spChanged K C)) (m_Hearer_copied : Mf P w K mg base 3 C "copied" ["self", "letter"] (spCopied K C)) :
    Mf P w K mg base 4 C "hear" ["self", "letter"] (spHear K C) := by
  refine F.ok sc_Hearer_hear (fun _ _ _ _ _ _ us hl => match us, hl with | [_, _], _ => rfl) len_of fun qual f cdv A0 outer s H vs Q E hr h => ?_
  obtain ⟨_, A, hs, c, v, l, rfl, r, hc, rv, h8, wf, hl, go⟩ := h
  refine ⟨_, (pss_cons (ps_if (pt_cmpR op_eq (pe_ix ix_tup (pv 1) pe_int (fun _ _ => rfl)) pe_str (nomark _))
        (pss_one (ps_ret (pm (pv 0) CHearer.cl m_Hearer_changed hr (pa_cons (pv 1) pa_nil))))
        pss_nil)
      (pss_cons (ps_if (pt_cmpR op_eq (pe_ix ix_tup (pv 1) pe_int (fun _ _ => rfl)) pe_str (nomark _))
        (pss_one (ps_ret (pm (pv 0) CHearer.cl m_Hearer_copied hr (pa_cons (pv 1) pa_nil))))
        pss_nil)
      (pss_cons (ps_for PassesOwn.never rfl (pi_range1 rfl Bm.range (pa_cons (pe_callB call_len_seq rfl Bm.len (by decide +kernel) (pa_cons (pe_fld (pv 0) rfl) pa_nil)) pa_nil)) (pg_name (i := 2) sc_Hearer_hear.nd rfl (Or.inl rfl))
        (pss_one (ps_if (pt_chain op_le op_lt (pe_ix ix_tup (pe_ix ix_tup (pv 1) pe_int (fun _ _ => rfl)) (pv 2) (fun _ _ => rfl)) (pe_ix ix_list (pe_fld (pv 0) rfl) (pv 2) (fun _ _ => rfl)) (pe_ix ix_tup (pv 1) pe_int (fun _ _ => rfl)))
          (pss_one (ps_asg (pe_ix ix_tup (pv 1) pe_int (fun _ _ => rfl)) (pg_sub (pe_fld (pv 0) rfl) (pv 2) set_list)))
          pss_nil)))
      (pss_one (ps_ret (pe_lst pa_nil)))))), ?_⟩
  cases l with
  | change n ch ahead =>
    obtain ⟨a, rfl, ha⟩ := rv.chg_inv
    obtain ⟨g, eg⟩ : ∃ g, hs[ch.key]? = some g := ⟨hs[ch.key], List.getElem?_eq_getElem hl⟩
    obtain ⟨e1, e2⟩ := hear_change (n := n) (ahead := ahead) eg
    rw [e1, e2] at go
    exact ⟨_, rfl, a, _, _, _, rfl, rfl, SqT.of ha, rfl, rfl, _, rfl, iteP (by decide +kernel) ⟨_, rfl, A.p, _, _, rfl, r.at_p hc, hFno, _, rfl, rfl, A, hs, c, .ref a, n, ahead, ch, g, rfl, r, hc, rv, eg, wf g (List.mem_of_getElem? eg), go⟩⟩
  | part n b rows =>
    obtain ⟨a, t, xs, rfl, ha, _⟩ := id rv.part_inv
    exact ⟨_, rfl, a, _, _, _, rfl, rfl, SqT.of ha, rfl, rfl, _, rfl, iteM (by decide +kernel) ⟨_, rfl, a, _, _, _, rfl, rfl, SqT.of ha, rfl, rfl, _, rfl, iteP (by decide +kernel) ⟨_, rfl, A.p, _, _, rfl, r.at_p hc, hFno, _, rfl, rfl, A, hs, c, .ref a, n, b, rows, rfl, r, hc, rv, h8, wf, hl, go⟩⟩⟩
  | beat n lasts =>
    obtain ⟨a, t, rfl, ha, ht⟩ := rv.beat_inv
    have hl : lasts.length = hs.length := hl
    refine ⟨_, rfl, a, _, _, _, rfl, rfl, SqT.of ha, rfl, rfl, _, rfl, iteM (by decide +kernel) ⟨_, rfl, a, _, _, _, rfl, rfl, SqT.of ha, rfl, rfl, _, rfl, iteM (by decide +kernel) ?_⟩⟩
    refine ⟨_, rfl, _, C, _, _, _, rfl, r.at_p hc, CHearer.cl, CHearer.n3, hF3 A, _, _, rfl, .inl (SqL.of (r.at3 hc)), _, rfl, by rw [List.length_map]; omega, by rw [List.length_map]; omega, ?_⟩
    refine for_range (lo := 0) (n := ((hs.map fun h => V.int h.upto).length : Int).toNat) (fun i σ H2 => ∃ (v2 : Option V) (c' : Lg), σ = [some (.ref A.p), some (.ref a), v2] ∧ HR K C A (prt hs (.beat n lasts) i) H2 c' ∧ Tr H c H2 c' ∧ fnd hs (.beat n lasts) i = [])
      ⟨none, c, rfl, ?_, Tr.refl H c, rfl⟩ ?_ ?_
    · rw [(prt_low (hs := hs) (l := .beat n lasts) (b := 0) fun k g hk => absurd hk (Nat.not_lt_zero _)).1]
      exact r
    · rintro i σ H2 hi ⟨v2, c', rfl, r2, t2, f2⟩
      rw [List.length_map] at hi
      have hi' : i < hs.length := by omega
      obtain ⟨g, eg⟩ : ∃ g, hs[i]? = some g := ⟨hs[i], List.getElem?_eq_getElem hi'⟩
      obtain ⟨la, el⟩ : ∃ la, lasts[i]? = some la := ⟨lasts[i], List.getElem?_eq_getElem (by omega)⟩
      have eg2 : (prt hs (.beat n lasts) i)[i]? = some g := by rw [prt_get eg, if_neg (Nat.lt_irrefl _)]
      have eK : hearK i g (.beat n lasts) = (g.beat n la, []) := by
        simp only [hearK]
        rw [el]
      have eP : prt hs (.beat n lasts) (i + 1) = (prt hs (.beat n lasts) i).set i (g.beat n la) := by rw [prt_succ eg, eK]
      have eF : fnd hs (.beat n lasts) (i + 1) = [] := by rw [fnd_succ eg, eK, f2]; rfl
      have ez : ((0 : Int) + i) = (i : Int) := by omega
      have hc2 := t2.now hc
      have plen := prt_len hs (.beat n lasts) i
      have a3 : atI ((prt hs (.beat n lasts) i).map fun h => V.int h.upto) ((0 : Int) + i) = some (V.int g.upto) := at_of (j := i) ez (by rw [List.getElem?_map, eg2]; rfl)
      have a4 : atI (lasts.map fun k : Nat => V.int k) ((0 : Int) + i) = some (V.int la) := at_of (j := i) ez (by rw [List.getElem?_map, el]; rfl)
      have ha2 := t2.mono _ _ ha trivial
      have same : (¬ ((la : Int) ≤ g.upto ∧ g.upto < (n : Int))) → ∃ (v2' : Option V) (c'' : Lg), ([some (V.ref A.p), some (.ref a), some (.int (0 + i))] : L2.St) = [some (.ref A.p), some (.ref a), v2'] ∧ HR K C A (prt hs (.beat n lasts) (i + 1)) H2 c'' ∧ Tr H c H2 c'' ∧ fnd hs (.beat n lasts) (i + 1) = [] := fun q => by
        have eB : g.beat n la = g := by
          unfold HK.beat
          rw [if_neg q]
        refine ⟨_, c', rfl, ?_, t2, eF⟩
        rw [eP, eB, set_back eg2]
        exact r2
      refine ⟨_, rfl, a, _, _, _, rfl, rfl, SqT.of ha2, rfl, _, rfl, t, _, _, _, rfl, rfl, SqT.of (t2.mono _ _ ht trivial), a4, _, rfl, _, C, _, _, _, rfl, r2.at_p hc2, CHearer.cl, CHearer.n3, hF3 A, _, rfl, _, _, _, _, rfl, rfl, SqL.of (r2.at3 hc2), a3, _, _, rfl, rfl, _, rfl, ite2 (fun h0 => ?_) fun h0 => ?_⟩
      · refine ⟨_, rfl, a, _, _, _, rfl, rfl, SqT.of ha2, rfl, _, _, rfl, rfl, _, rfl, ite2 (fun h1 => ?_) fun h1 => ?_⟩
        · refine ⟨_, rfl, a, _, _, _, rfl, rfl, SqT.of ha2, rfl, _, rfl, _, C, _, _, _, rfl, r2.at_p hc2, CHearer.cl, CHearer.n3, hF3 A, _, rfl, _, _, _, _, rfl, rfl, r2.at3 hc2, ixN_of ez (by rw [List.length_map, plen]; exact hi'), ?_⟩
          obtain ⟨c4, r4, t4⟩ := r2.set3 hc2 eg2 n
          have eB : g.beat n la = { g with upto := n } := by
            unfold HK.beat
            rw [if_pos ⟨of_decide_eq_true h0, of_decide_eq_true h1⟩]
          refine ⟨_, c4, rfl, ?_, t2.trans t4, eF⟩
          rw [eP, eB]
          exact r4
        · exact same fun q => ndec h1 q.2
      · exact ⟨_, rfl, iteM (by decide) (same fun q => ndec h0 q.1)⟩
    · rintro σ H2 ⟨v2, c', rfl, r2, t2, f2⟩
      refine ⟨(by show 0 ≤ sizeLine; decide), fun l hl2 => ?_⟩
      have e1 : prt hs (.beat n lasts) ((hs.map fun h => V.int h.upto).length : Int).toNat = hear hs (.beat n lasts) := prt_all (by rw [List.length_map]; omega)
      have e2 : fnd hs (.beat n lasts) ((hs.map fun h => V.int h.upto).length : Int).toNat = heard hs (.beat n lasts) := fnd_all (by rw [List.length_map]; omega)
      rw [e1] at r2
      rw [e2] at f2
      rw [f2] at go
      exact go l c' _ (r2.mono (Mono.new hl2)) (t2.new hl2 nl)
end
end Cu

namespace Cu
open PySem PySem.Spec PyProof.Rows L2
/-! what a hearer holds is right -/
theorem lof_le (cs : List Ch) (k : Nat) : lof cs k ≤ cs.length := by
  induction cs using snoc_ind with
  | h0 => exact Nat.le_refl _
  | h1 cs c ih =>
    rw [lof_snoc, List.length_append, List.length_singleton]
    split <;> omega
theorem take_le_len {cs : List Ch} {j : Nat} : (cs.take j).length ≤ j := by
  rw [List.length_take]
  exact Nat.min_le_left _ _
theorem lof_take_le (cs : List Ch) (j k : Nat) : lof (cs.take j) k ≤ j := Nat.le_trans (lof_le _ _) take_le_len
/-- a step of a story -/
theorem lof_step {cs : List Ch} {j k : Nat} : lof (cs.take (j + 1)) k = lof (cs.take j) k ∨ (lof (cs.take (j + 1)) k = j + 1 ∧ ∃ c, cs[j]? = some c ∧ c.key = k) := by
  cases e : cs[j]? with
  | none =>
    left
    have hj := List.getElem?_eq_none_iff.mp e
    rw [List.take_of_length_le hj, List.take_of_length_le (Nat.le_succ_of_le hj)]
  | some c =>
    have hj := (List.getElem?_eq_some_iff.mp e).1
    rw [take_snoc e, lof_snoc]
    by_cases hk : c.key = k
    · right
      rw [if_pos hk, List.length_take, Nat.min_eq_left (Nat.le_of_lt hj)]
      exact ⟨rfl, c, rfl, hk⟩
    · left
      rw [if_neg hk]
theorem lof_mono {cs : List Ch} {k i j : Nat} (h : i ≤ j) : lof (cs.take i) k ≤ lof (cs.take j) k := by
  induction j with
  | zero =>
    have : i = 0 := by omega
    subst this
    exact Nat.le_refl _
  | succ j ih =>
    by_cases e : i = j + 1
    · subst e
      exact Nat.le_refl _
    · have := ih (by omega)
      rcases lof_step (cs := cs) (j := j) (k := k) with q | ⟨q, _⟩
      · omega
      · have := lof_take_le cs j k
        omega
theorem lof_ge {cs : List Ch} {k m j : Nat} {c : Ch} (e : cs[m]? = some c) (hk : c.key = k) (h : m < j) : m + 1 ≤ lof (cs.take j) k := by
  have h1 : lof (cs.take (m + 1)) k = m + 1 := by
    have hm := (List.getElem?_eq_some_iff.mp e).1
    rw [take_snoc e, lof_snoc, if_pos hk, List.length_take, Nat.min_eq_left (Nat.le_of_lt hm)]
  have := lof_mono (cs := cs) (k := k) (show m + 1 ≤ j by omega)
  omega
/-- nothing happens to a key behind its last change -/
theorem wof_const {cs : List Ch} {k i j : Nat} (h : i ≤ j) (hl : lof (cs.take j) k ≤ i) : wof (cs.take j) k = wof (cs.take i) k ∧ lof (cs.take j) k = lof (cs.take i) k := by
  induction j with
  | zero =>
    have : i = 0 := by omega
    subst this
    exact ⟨rfl, rfl⟩
  | succ j ih =>
    by_cases e : i = j + 1
    · subst e
      exact ⟨rfl, rfl⟩
    · have hij : i ≤ j := by omega
      cases ec : cs[j]? with
      | none =>
        have hj := List.getElem?_eq_none_iff.mp ec
        have e1 : cs.take (j + 1) = cs.take j := by rw [List.take_of_length_le hj, List.take_of_length_le (Nat.le_succ_of_le hj)]
        rw [e1] at hl ⊢
        exact ih hij hl
      | some c =>
        have hk : ¬ c.key = k := fun q => by
          have := lof_ge (j := j + 1) ec q (Nat.lt_succ_self _)
          omega
        rw [take_snoc ec, lof_snoc, if_neg hk] at hl
        rw [take_snoc ec, wof_snoc, lof_snoc, if_neg hk, wst, if_neg hk]
        exact ih hij hl
/-- the change of a key -/
theorem wof_at {cs : List Ch} {m : Nat} {c : Ch} (e : cs[m]? = some c) : wof (cs.take (m + 1)) c.key = (if c.set then 0 else wof (cs.take m) c.key) + c.worth ∧ lof (cs.take (m + 1)) c.key = m + 1 := by
  have hm := (List.getElem?_eq_some_iff.mp e).1
  rw [take_snoc e, wof_snoc, lof_snoc, if_pos rfl, wst, if_pos rfl, List.length_take, Nat.min_eq_left (Nat.le_of_lt hm)]
  exact ⟨rfl, rfl⟩
/-- put aside is a true adding change -/
def AsIn (cs : List Ch) (k : Nat) (a : As) : Prop := ∃ m, a.n = m + 1 ∧ cs[m]? = some ⟨k, false, a.worth⟩ ∧ a.ahead = lof (cs.take m) k
theorem AsIn.lt {cs : List Ch} {k : Nat} {a : As} (h : AsIn cs k a) : a.ahead < a.n := by
  obtain ⟨m, e1, e2, e3⟩ := h
  have := lof_take_le cs m k
  omega
theorem AsIn.le {cs : List Ch} {k : Nat} {a : As} (h : AsIn cs k a) : a.n ≤ cs.length ∧ 0 < a.n := by
  obtain ⟨m, e1, e2, e3⟩ := h
  have := (List.getElem?_eq_some_iff.mp e2).1
  omega
/-- of two changes of a key the later one is behind the other one -/
theorem AsIn.after {cs : List Ch} {k : Nat} {a b : As} (ha : AsIn cs k a) (hb : AsIn cs k b) (h : a.n < b.n) : a.n ≤ b.ahead := by
  obtain ⟨m, e1, e2, e3⟩ := ha
  obtain ⟨m', f1, f2, f3⟩ := hb
  have := lof_ge (k := k) (j := m') e2 rfl (by omega)
  omega
/-- what is held is right -/
structure KR (cs : List Ch) (k : Nat) (h : HK) : Prop where
  lo : -1 ≤ h.upto
  hi : h.upto ≤ cs.length
  ok : ∀ u : Nat, h.upto = u → h.worth = wof (cs.take u) k ∧ h.since = lof (cs.take u) k
  as : ∀ a ∈ h.aside, AsIn cs k a
  nd : (asN h.aside).Nodup
structure KI (cs : List Ch) (k : Nat) (h : HK) : Prop extends KR cs k h where
  ahead : ∀ a ∈ h.aside, h.upto < (a.ahead : Int)
theorem KI.ini (cs : List Ch) (k : Nat) : KI cs k HK.ini := ⟨⟨Int.le_refl _, by show (-1 : Int) ≤ _; omega, fun u e => by
  have e : (-1 : Int) = u := e
  omega, fun _ h => (nomatch h), List.nodup_nil⟩, fun _ h => (nomatch h)⟩
theorem dropA_mem {as : List As} {n : Int} {a : As} : a ∈ dropA as n ↔ a ∈ as ∧ (a.n : Int) ≠ n := by
  unfold dropA
  rw [List.mem_filter]
  simp
theorem asN_drop (as : List As) (n : Int) : (asN (dropA as n)).Sublist (asN as) := (List.filter_sublist (p := _)).map _
theorem findA_mem {as : List As} {n : Int} {a : As} (h : findA as n = some a) : a ∈ as := List.mem_of_find?_eq_some h
theorem asN_of {as : List As} {b : As} (hb : b ∈ as) : (b.n : Int) ∈ asN as := List.mem_map.mpr ⟨b, hb, rfl⟩
theorem nd_same {as : List As} (nd : (asN as).Nodup) {a b : As} (ha : a ∈ as) (hb : b ∈ as) (e : a.n = b.n) : a = b := by
  induction as with
  | nil => cases ha
  | cons x as ih =>
    obtain ⟨h1, h2⟩ := List.nodup_cons.mp (show ((x.n : Int) :: asN as).Nodup from nd)
    rcases List.mem_cons.mp ha with ha' | ha'
    · rcases List.mem_cons.mp hb with hb' | hb'
      · rw [ha', hb']
      · refine absurd ?_ h1
        have q := asN_of hb'
        rw [← e, ha'] at q
        exact q
    · rcases List.mem_cons.mp hb with hb' | hb'
      · refine absurd ?_ h1
        have q := asN_of ha'
        rw [e, hb'] at q
        exact q
      · exact ih h2 ha' hb'
/-- a number that stands for a change of the key -/
def IsN (cs : List Ch) (k : Nat) (n : Int) : Prop := ∃ m c, n = ((m + 1 : Nat) : Int) ∧ cs[m]? = some c ∧ c.key = k
theorem fold_inv {cs : List Ch} {k : Nat} {u0 : Int} : ∀ {L : List Int} {st : HK × List Int}, KR cs k st.1 → 0 ≤ st.1.upto → L.Pairwise (· < ·) → (∀ n ∈ L, n ∈ asN st.1.aside) →
    (∀ a ∈ st.1.aside, (a.n : Int) ∉ L → st.1.upto < (a.ahead : Int) ∧ ∀ n ∈ L, (a.n : Int) < n) →
    u0 ≤ st.1.upto → (∀ n ∈ st.2, u0 < n ∧ n ≤ st.1.upto ∧ IsN cs k n) → st.2.Pairwise (· < ·) →
    KI cs k (L.foldl HK.fstep st).1 ∧ st.1.upto ≤ (L.foldl HK.fstep st).1.upto ∧ (∀ n ∈ (L.foldl HK.fstep st).2, u0 < n ∧ n ≤ (L.foldl HK.fstep st).1.upto ∧ IsN cs k n) ∧ (L.foldl HK.fstep st).2.Pairwise (· < ·)
  | [], st, r, h0, _, _, hrem, hu, hf, hp => ⟨⟨r, fun a ha => (hrem a ha (List.not_mem_nil)).1⟩, Int.le_refl _, hf, hp⟩
  | n :: L, st, r, h0, hL, hin, hrem, hu, hf, hp => by
    rw [List.foldl_cons]
    obtain ⟨hL1, hL2⟩ := List.pairwise_cons.mp hL
    obtain ⟨a, ha, ean⟩ := findA_some (hin n List.mem_cons_self)
    have hnL : n ∉ L := fun q => Int.lt_irrefl _ (hL1 n q)
    have ham := findA_mem ha
    have hain := r.as a ham
    obtain ⟨u, hu'⟩ : ∃ u : Nat, st.1.upto = u := ⟨st.1.upto.toNat, by omega⟩
    have stay : ∀ m ∈ L, m ∈ asN (dropA st.1.aside n) := fun m hm => by
      obtain ⟨b, hb, eb⟩ := List.mem_map.mp (hin m (List.mem_cons_of_mem _ hm))
      refine List.mem_map.mpr ⟨b, dropA_mem.mpr ⟨hb, fun q => ?_⟩, eb⟩
      have := hL1 m hm
      omega
    by_cases h1 : n ≤ st.1.upto
    · have e1 : HK.fstep st n = ({ st.1 with aside := dropA st.1.aside n }, st.2) := by
        unfold HK.fstep
        rw [ha]
        dsimp only
        rw [if_pos h1]
      rw [e1]
      exact fold_inv (st := ({ st.1 with aside := dropA st.1.aside n }, st.2)) ⟨r.lo, r.hi, r.ok, fun b hb => r.as b (dropA_mem.mp hb).1, r.nd.sublist (asN_drop _ _)⟩ h0 hL2 stay
        (fun b hb hbL => by
          obtain ⟨hb1, hb2⟩ := dropA_mem.mp hb
          obtain ⟨q1, q2⟩ := hrem b hb1 fun q => by
            rcases List.mem_cons.mp q with q | q
            · exact hb2 q
            · exact hbL q
          exact ⟨q1, fun m hm => q2 m (List.mem_cons_of_mem _ hm)⟩) hu hf hp
    · by_cases h2 : (a.ahead : Int) ≤ st.1.upto
      · have e1 : HK.fstep st n = (({ st.1 with aside := dropA st.1.aside n } : HK).done a.n false a.worth, st.2 ++ [n]) := by
          unfold HK.fstep
          rw [ha]
          dsimp only
          rw [if_neg h1, if_pos h2]
        rw [e1]
        obtain ⟨m, em1, em2, em3⟩ := id hain
        have hle := hain.le
        have hright : st.1.worth + a.worth = wof (cs.take a.n) k ∧ a.n = lof (cs.take a.n) k := by
          obtain ⟨w1, w2⟩ := wof_at em2
          obtain ⟨w3, _⟩ := wof_const (cs := cs) (k := k) (i := u) (j := m) (by omega) (by omega)
          rw [em1]
          refine ⟨?_, w2.symm⟩
          rw [show wof (cs.take (m + 1)) k = (if false = true then (0 : Int) else wof (cs.take m) k) + a.worth from w1, if_neg (by decide), w3, (r.ok u hu').1]
        have hdone : KR cs k (({ st.1 with aside := dropA st.1.aside n } : HK).done a.n false a.worth) := by
          refine ⟨?_, ?_, fun v hv => ?_, fun b hb => r.as b (dropA_mem.mp hb).1, r.nd.sublist (asN_drop _ _)⟩
          · show (-1 : Int) ≤ (a.n : Int)
            omega
          · show (a.n : Int) ≤ cs.length
            omega
          · have hv : (a.n : Int) = v := hv
            have : a.n = v := by omega
            subst this
            exact ⟨hright.1, hright.2⟩
        have hrem' : ∀ b ∈ (({ st.1 with aside := dropA st.1.aside n } : HK).done a.n false a.worth).aside, (b.n : Int) ∉ L → (({ st.1 with aside := dropA st.1.aside n } : HK).done a.n false a.worth).upto < (b.ahead : Int) ∧ ∀ n ∈ L, (b.n : Int) < n := by
          intro b hb hbL
          obtain ⟨hb1, hb2⟩ := dropA_mem.mp hb
          obtain ⟨q1, q2⟩ := hrem b hb1 fun q => by
            rcases List.mem_cons.mp q with q | q
            · exact hb2 q
            · exact hbL q
          have q3 := q2 n List.mem_cons_self
          have := (r.as b hb1).after hain (by omega)
          have := (r.as b hb1).lt
          omega
        have hf' : ∀ x ∈ st.2 ++ [n], u0 < x ∧ x ≤ (({ st.1 with aside := dropA st.1.aside n } : HK).done a.n false a.worth).upto ∧ IsN cs k x := by
          intro x hx
          show u0 < x ∧ x ≤ (a.n : Int) ∧ IsN cs k x
          rcases List.mem_append.mp hx with hx | hx
          · obtain ⟨p1, p2, p3⟩ := hf x hx
            exact ⟨p1, by omega, p3⟩
          · rw [List.mem_singleton] at hx
            subst hx
            exact ⟨by omega, by omega, m, _, by omega, em2, rfl⟩
        have hp' : (st.2 ++ [n]).Pairwise (· < ·) := by
          refine List.pairwise_append.mpr ⟨hp, List.pairwise_singleton _ _, fun x hx y hy => ?_⟩
          rw [List.mem_singleton] at hy
          subst hy
          have := (hf x hx).2.1
          omega
        have q := fold_inv (u0 := u0) (L := L) (st := (({ st.1 with aside := dropA st.1.aside n } : HK).done a.n false a.worth, st.2 ++ [n])) hdone (by show (0 : Int) ≤ (a.n : Int); omega) hL2 stay hrem' (by show u0 ≤ (a.n : Int); omega) hf' hp'
        exact ⟨q.1, Int.le_trans (by show st.1.upto ≤ (a.n : Int); omega) q.2.1, q.2.2⟩
      · have e1 : HK.fstep st n = st := by
          unfold HK.fstep
          rw [ha]
          dsimp only
          rw [if_neg h1, if_neg h2]
        rw [e1]
        refine fold_inv r h0 hL2 (fun m hm => hin m (List.mem_cons_of_mem _ hm)) (fun b hb hbL => ?_) hu hf hp
        by_cases hbn : (b.n : Int) = n
        · have : b = a := nd_same r.nd hb ham (by omega)
          subst this
          exact ⟨by omega, fun m hm => by rw [hbn]; exact hL1 m hm⟩
        · obtain ⟨q1, q2⟩ := hrem b hb fun q => by
            rcases List.mem_cons.mp q with q | q
            · exact hbn q
            · exact hbL q
          exact ⟨q1, fun m hm => q2 m (List.mem_cons_of_mem _ hm)⟩
theorem srt_lt {ns : List Int} (nd : ns.Nodup) : (srt ns).Pairwise (· < ·) := by
  have h1 : (srt ns).Pairwise (· ≤ ·) := by
    have := List.pairwise_mergeSort (le := fun a b : Int => decide (a ≤ b)) (fun a b c h1 h2 => by simp at h1 h2 ⊢; omega) (fun a b => by simp; omega) ns
    exact this.imp fun h => by simpa using h
  have h2 : (srt ns).Nodup := (srt_perm ns).nodup_iff.mpr nd
  exact (List.pairwise_and_iff.mpr ⟨h1, h2⟩).imp fun ⟨a, b⟩ => by omega
/-- what is told as done by a letter, for a key: between what was known and what is known, changes of the key, rising -/
structure Told (cs : List Ch) (k : Nat) (u : Int) (r : HK × List Int) : Prop where
  inv : KI cs k r.1
  up : u ≤ r.1.upto
  num : ∀ n ∈ r.2, u < n ∧ n ≤ r.1.upto ∧ IsN cs k n
  rise : r.2.Pairwise (· < ·)
theorem free_told {cs : List Ch} {k : Nat} {h : HK} {u0 : Int} (r : KR cs k h) (h0 : 0 ≤ h.upto) (hu : u0 ≤ h.upto) : Told cs k u0 h.free ∧ h.upto ≤ h.free.1.upto := by
  obtain ⟨q1, q2, q3, q4⟩ := fold_inv (u0 := u0) (L := srt (asN h.aside)) (st := (h, [])) r h0 (srt_lt r.nd) (fun n hn => (srt_perm _).mem_iff.mp hn)
    (fun a ha q => absurd ((srt_perm _).mem_iff.mpr (List.mem_map.mpr ⟨a, ha, rfl⟩)) q) hu (fun _ q => (nomatch q)) List.Pairwise.nil
  exact ⟨⟨q1, Int.le_trans hu q2, q3, q4⟩, q2⟩
theorem Told.none {cs : List Ch} {k : Nat} {h : HK} (i : KI cs k h) : Told cs k h.upto (h, []) := ⟨i, Int.le_refl _, fun _ q => (nomatch q), List.Pairwise.nil⟩
theorem putA_mem {as : List As} {a b : As} (h : b ∈ putA as a) : b = a ∨ b ∈ as := by
  unfold putA at h
  split at h
  · obtain ⟨x, hx, e⟩ := List.mem_map.mp h
    split at e
    · exact .inl e.symm
    · exact .inr (e ▸ hx)
  · rcases List.mem_append.mp h with h | h
    · exact .inr h
    · exact .inl (List.mem_singleton.mp h)
theorem putA_nd {as : List As} {a : As} (nd : (asN as).Nodup) : (asN (putA as a)).Nodup := by
  unfold putA
  split
  · have : asN (as.map fun x => if x.n = a.n then a else x) = asN as := by
      unfold asN
      rw [List.map_map]
      apply List.map_congr_left
      intro x _
      show ((if x.n = a.n then a else x).n : Int) = x.n
      split
      · rename_i h
        rw [h]
      · rfl
    rw [this]
    exact nd
  · rename_i h
    unfold asN
    rw [List.map_append]
    refine List.nodup_append.mpr ⟨nd, by simp, fun x hx y hy q => h ?_⟩
    obtain ⟨b, hb, eb⟩ := List.mem_map.mp hx
    have hy : y = (a.n : Int) := by simpa using hy
    rw [List.any_eq_true]
    exact ⟨b, hb, by simp; omega⟩
/-- THE STEP -/
theorem hearK_told {nk : Nat} {cs : List Ch} {k : Nat} {h : HK} {l : Letter} (i : KI cs k h) (hk : k < nk) (hl : IsLet nk cs l) : Told cs k h.upto (hearK k h l) := by
  cases hl with
  | @change n c e =>
    simp only [hearK]
    split
    · rename_i hck
      subst hck
      unfold HK.chg
      split
      · exact .none i
      · rename_i h1
        split
        · rename_i h2
          have hin : AsIn cs c.key ⟨n + 1, c.worth, lof (cs.take n) c.key⟩ := by
            refine ⟨n, rfl, ?_, rfl⟩
            rw [e]
            cases c
            cases h2.1
            rfl
          refine ⟨⟨⟨i.lo, i.hi, i.ok, fun a ha => ?_, putA_nd i.nd⟩, fun a ha => ?_⟩, Int.le_refl _, fun _ q => (nomatch q), List.Pairwise.nil⟩
          · rcases putA_mem ha with q | q
            · rw [q]
              exact hin
            · exact i.as a q
          · rcases putA_mem ha with q | q
            · rw [q]
              exact h2.2
            · exact i.ahead a q
        · rename_i h2
          have hn := (List.getElem?_eq_some_iff.mp e).1
          have hr : KR cs c.key (h.done (n + 1) c.set c.worth) := by
            refine ⟨?_, ?_, fun u hu => ?_, i.as, i.nd⟩
            · show (-1 : Int) ≤ ((n + 1 : Nat) : Int)
              omega
            · show ((n + 1 : Nat) : Int) ≤ cs.length
              omega
            · have hu : ((n + 1 : Nat) : Int) = u := hu
              have : n + 1 = u := by omega
              subst this
              obtain ⟨w1, w2⟩ := wof_at e
              refine ⟨?_, w2.symm⟩
              show (if c.set then c.worth else h.worth + c.worth) = _
              rw [w1]
              cases hs : c.set with
              | true => simp
              | false =>
                have hua : (lof (cs.take n) c.key : Int) ≤ h.upto := by
                  by_cases q : h.upto < (lof (cs.take n) c.key : Int)
                  · exact absurd ⟨hs, q⟩ h2
                  · omega
                obtain ⟨v, hv⟩ : ∃ v : Nat, h.upto = v := ⟨h.upto.toNat, by omega⟩
                obtain ⟨w3, _⟩ := wof_const (cs := cs) (k := c.key) (i := v) (j := n) (by omega) (by omega)
                rw [(i.ok v hv).1, w3]
                simp
          obtain ⟨q1, q2⟩ := free_told (u0 := ((n + 1 : Nat) : Int)) hr (by show (0 : Int) ≤ ((n + 1 : Nat) : Int); omega) (Int.le_refl _)
          refine ⟨q1.inv, by show h.upto ≤ (h.done (n + 1) c.set c.worth).free.1.upto; have := q1.up; omega, fun x hx => ?_, List.pairwise_cons.mpr ⟨fun x hx => (q1.num x hx).1, q1.rise⟩⟩
          rcases List.mem_cons.mp hx with hx | hx
          · subst hx
            exact ⟨by omega, q1.up, n, c, rfl, e, rfl⟩
          · obtain ⟨p1, p2, p3⟩ := q1.num x hx
            exact ⟨by omega, p2, p3⟩
    · exact .none i
  | @part n b e hn hbe hek =>
    show Told cs k h.upto (hearK k h (.part n b (partRows cs n b (e - b))))
    simp only [hearK]
    split
    · rename_i hbk
      cases er : (partRows cs n b (e - b))[k - b]? with
      | none => exact .none i
      | some r =>
        have hr : r = (wof (cs.take n) k, lof (cs.take n) k) := by
          have hlt := (List.getElem?_eq_some_iff.mp er).1
          rw [partRows, List.length_map, List.length_range] at hlt
          rw [partRows, List.getElem?_map, List.getElem?_range hlt] at er
          have := Option.some.inj er
          rw [← this]
          show (wof (cs.take n) (b + (k - b)), lof (cs.take n) (b + (k - b))) = _
          rw [show b + (k - b) = k by omega]
        subst hr
        show Told cs k h.upto (h.row n (wof (cs.take n) k) (lof (cs.take n) k))
        unfold HK.row
        split
        · rename_i h1
          have hr : KR cs k { h with worth := wof (cs.take n) k, since := lof (cs.take n) k, upto := n } := by
            refine ⟨by show (-1 : Int) ≤ (n : Int); omega, by show (n : Int) ≤ cs.length; omega, fun u hu => ?_, i.as, i.nd⟩
            have hu : (n : Int) = u := hu
            have : n = u := by omega
            subst this
            exact ⟨rfl, rfl⟩
          exact (free_told hr (by show (0 : Int) ≤ (n : Int); omega) (by show h.upto ≤ (n : Int); omega)).1
        · exact .none i
    · exact .none i
  | @beat n hn =>
    show Told cs k h.upto (hearK k h (.beat n ((List.range nk).map fun k => lof (cs.take n) k)))
    simp only [hearK]
    rw [List.getElem?_map, List.getElem?_range hk]
    show Told cs k h.upto (h.beat n (lof (cs.take n) k), [])
    unfold HK.beat
    split
    · rename_i h1
      obtain ⟨v, hv⟩ : ∃ v : Nat, h.upto = v := ⟨h.upto.toNat, by omega⟩
      obtain ⟨w3, w4⟩ := wof_const (cs := cs) (k := k) (i := v) (j := n) (by omega) (by omega)
      refine ⟨⟨⟨by show (-1 : Int) ≤ (n : Int); omega, by show (n : Int) ≤ cs.length; omega, fun u hu => ?_, i.as, i.nd⟩, fun a ha => ?_⟩, by show h.upto ≤ (n : Int); omega, fun _ q => (nomatch q), List.Pairwise.nil⟩
      · have hu : (n : Int) = u := hu
        have : n = u := by omega
        subst this
        rw [w3, w4]
        exact i.ok v hv
      · show (n : Int) < (a.ahead : Int)
        have h2 := i.ahead a ha
        rcases Nat.lt_or_ge n a.ahead with q | q
        · omega
        · exfalso
          obtain ⟨m, e1, e2, e3⟩ := i.as a ha
          -- the change ahead is one of the key's, at n at the latest
          have h3 : lof (cs.take a.ahead) k = a.ahead := by
            have : lof (cs.take m) k ≤ a.ahead := by omega
            have := wof_const (cs := cs) (k := k) (i := a.ahead) (j := m) (by have := lof_take_le cs m k; omega) this
            omega
          have h4 := lof_mono (cs := cs) (k := k) q
          omega
    · exact .none i
end Cu

namespace Cu
open PySem PySem.Spec PyProof.Rows L2
def wholeD (hs : List HK) : PyData := match wholeM hs with
  | none => .none
  | some (n, ws) => .tuple [.int n, ilst ws]
def standD (hs : List HK) : PyData := .list [.list (hs.map lookM), ilst (hs.map fun h => h.upto), ilst (heldM hs), wholeD hs]
theorem Gd.look {n : Nat} (h : HK) : Gd (n + 2) (lookM h) := by
  unfold lookM
  split
  · exact .none
  · exact .tuple (.all_cons .int (.all_cons .int (.all_cons .int .all_nil)))
theorem Gd.whole {n : Nat} (hs : List HK) : Gd (n + 3) (wholeD hs) := by
  unfold wholeD
  split
  · exact .none
  · exact .tuple (.all_cons .int (.all_cons (.ilst _) .all_nil))
theorem Gd.stand (hs : List HK) : Gd 5 (standD hs) := .list (.all_cons (.list fun d hd => by
  obtain ⟨h, _, rfl⟩ := List.mem_map.mp hd
  exact .look h) (.all_cons (.ilst _) (.all_cons (.ilst _) (.all_cons (.whole _) .all_nil))))
section
variable {K : PySem.W.Frag} {H : Hp} {C : Addr} {σ : L2.St} {Q : VK} {i : Nat} {A : HA} {hs : List HK} {c : Lg} {te : TE}
theorem rd_known (h1 : σ[i]? = some (some (.ref A.p))) (r : HR K C A hs H c) (hc : Has H c) (q : ∀ p H', Grow H H' → FzL K H' p ((hs.map fun h => h.upto).map V.int) → Q (.ref p) H') :
    tFz (tMeth C "known" (spKnown K C) [] E0 (tVar i) tNil) σ H Q :=
  rd_fz ⟨_, h1, A.p, _, _, rfl, r.at_p hc, hFno, rfl, A, hs, c, rfl, r, hc, fun _ _ t => ⟨_, _, rfl, t.own.head, fun _ => q _ _ (t.fz .nil) FzL.frz⟩⟩
theorem rd_held (h1 : σ[i]? = some (some (.ref A.p))) (r : HR K C A hs H c) (hc : Has H c) (hsz : (hs.map fun h => asN h.aside).flatten.length ≤ 1000) (q : ∀ p H', Grow H H' → FzL K H' p ((heldM hs).map V.int) → Q (.ref p) H') :
    tFz (tMeth C "held" (spHeld K C) [] E0 (tVar i) tNil) σ H Q :=
  rd_fz ⟨_, h1, A.p, _, _, rfl, r.at_p hc, hFno, rfl, A, hs, c, rfl, r, hc, hsz, fun _ _ t => ⟨_, _, rfl, t.own.head, fun _ => q _ _ (t.fz .nil) FzL.frz⟩⟩
theorem rd_whole (h1 : σ[i]? = some (some (.ref A.p))) (r : HR K C A hs H c) (hc : Has H c) (hn : 0 < hs.length) (q : ∀ v H', Grow H H' → Rp K H' (wholeD hs) v → Q v H') :
    tFzw (tMeth C "whole" (spWhole K C) [] E0 (tVar i) tNil) σ H Q := by
  refine rd_fzw ⟨_, h1, A.p, _, _, rfl, r.at_p hc, hFno, rfl, A, hs, c, rfl, r, hc, hn, fun hw => .inl (q _ _ (Grow.refl _) ?_), fun n ws hw p t H' t8 ht => .inr ⟨_, _, t8.own.head, fun o => q _ _ (t8.fz (ob := o) .nil) ?_⟩⟩
  · rw [wholeD, hw]
    exact .non
  · rw [wholeD, hw]
    exact .tup (t8.own.mono_put (o' := .frz o (.lst (ws.map V.int))) _ _ ht trivial) (.cons .int (.cons (.il FzL.frz) .nil))
theorem rd_look {k : Nat} {h : HK} {j : Nat} {z : Int} (h1 : σ[i]? = some (some (.ref A.p))) (r : HR K C A hs H c) (hc : Has H c) (h2 : σ[j]? = some (some (.int z))) (ez : z = k) (e : hs[k]? = some h) (q : ∀ v H', Grow H H' → Rp K H' (lookM h) v → Q v H') :
    tMeth C "look" (spLook K C) [] E0 (tVar i) (tCons (tVar j) tNil) σ H Q := by
  subst ez
  exact ⟨_, h1, A.p, _, _, rfl, r.at_p hc, hFno, _, h2, rfl, A, hs, c, k, h, rfl, r, hc, e, q⟩
theorem Rp.look_inv {h : HK} {v : V} (r : Rp K H (lookM h) v) (hu : 0 ≤ h.upto) : ∃ t, v = .ref t ∧ H t = some (.tup [.int h.worth, .int h.since, .int h.upto]) := by
  unfold lookM at r
  rw [if_neg (by omega)] at r
  obtain ⟨a, xs, e, f, r⟩ := r.tup_inv
  obtain ⟨v1, r1, e1, g1, r⟩ := r.cons_inv
  obtain ⟨v2, r2, e2, g2, r⟩ := r.cons_inv
  obtain ⟨v3, r3, e3, g3, r⟩ := r.cons_inv
  have := r.nil_inv
  subst this e3 e2 e1
  have g1 := Rp.int_iff.mp g1
  have g2 := Rp.int_iff.mp g2
  have g3 := Rp.int_iff.mp g3
  subst g1 g2 g3
  exact ⟨a, e, f⟩
theorem Rp.whole_inv {v : V} (r : Rp K H (wholeD hs) v) : (wholeM hs = none ∧ v = .non) ∨ ∃ n ws t p, wholeM hs = some (n, ws) ∧ v = .ref t ∧ H t = some (.tup [.int n, .ref p]) ∧ FzL K H p (ws.map V.int) := by
  unfold wholeD at r
  cases e : wholeM hs with
  | none =>
    rw [e] at r
    exact .inl ⟨rfl, Rp.none_iff.mp r⟩
  | some x =>
    obtain ⟨n, ws⟩ := x
    rw [e] at r
    obtain ⟨a, xs, e1, f, r⟩ := Rp.tup_inv r
    obtain ⟨v1, r1, e2, g1, r⟩ := r.cons_inv
    obtain ⟨v2, r2, e3, g2, r⟩ := r.cons_inv
    have := r.nil_inv
    subst this e3 e2
    have g1 := Rp.int_iff.mp g1
    obtain ⟨p, e4, f4⟩ := g2.il_inv
    subst g1 e4
    exact .inr ⟨n, ws, a, p, rfl, e1, f, f4⟩
end
end Cu

namespace Cu
open PySem PySem.Spec PyProof.Rows L2
/-! all keys of a hearer, by letters of one board -/
theorem IsN.key {cs : List Ch} {k k' : Nat} {n : Int} (h : IsN cs k n) (h' : IsN cs k' n) : k = k' := by
  obtain ⟨m, c, e1, e2, e3⟩ := h
  obtain ⟨m', c', e4, e5, e6⟩ := h'
  have : m = m' := by omega
  subst this
  rw [e2] at e5
  cases e5
  omega
theorem IsN.bd {cs : List Ch} {k : Nat} {n : Int} (h : IsN cs k n) : 0 < n ∧ n ≤ cs.length := by
  obtain ⟨m, c, e1, e2, _⟩ := h
  have := (List.getElem?_eq_some_iff.mp e2).1
  omega
theorem AsIn.isN {cs : List Ch} {k : Nat} {a : As} (h : AsIn cs k a) : IsN cs k a.n := by
  obtain ⟨m, e1, e2, _⟩ := h
  exact ⟨m, _, by omega, e2, rfl⟩
theorem rise_len : ∀ {l : List Int} {a b : Int}, l.Pairwise (· < ·) → (∀ n ∈ l, a < n ∧ n ≤ b) → (l.length : Int) ≤ if a ≤ b then b - a else 0
  | [], a, b, _, _ => by
    show (0 : Int) ≤ _
    split <;> omega
  | n :: l, a, b, h, q => by
    obtain ⟨h1, h2⟩ := List.pairwise_cons.mp h
    have q0 := q n List.mem_cons_self
    have ih := rise_len (a := n) (b := b) h2 fun m hm => ⟨h1 m hm, (q m (List.mem_cons_of_mem _ hm)).2⟩
    rw [if_pos (by omega)] at ih
    rw [if_pos (by omega), List.length_cons]
    omega
theorem nodup_len {l : List Int} {b : Nat} (nd : l.Nodup) (h : ∀ n ∈ l, 0 < n ∧ n ≤ b) : l.length ≤ b := by
  have h1 := rise_len (a := 0) (b := b) (srt_lt nd) fun n hn => h n ((srt_perm l).mem_iff.mp hn)
  rw [(srt_perm l).length_eq, if_pos (by omega)] at h1
  omega
theorem KI.few {cs : List Ch} {k : Nat} {h : HK} (i : KI cs k h) : h.aside.length ≤ cs.length := by
  have := nodup_len (b := cs.length) i.nd fun n hn => by
    obtain ⟨a, ha, e⟩ := List.mem_map.mp hn
    have := (i.as a ha).le
    omega
  rwa [asN, List.length_map] at this
theorem KI.wf {cs : List Ch} {k : Nat} {h : HK} (i : KI cs k h) (hl : cs.length < 122) : Wf h := ⟨i.nd, Nat.lt_of_le_of_lt i.few hl⟩
/-- a letter heard again -/
theorem putA_twice (as : List As) (a : As) : putA (putA as a) a = putA as a := by
  have hany : ((putA as a).any fun x => decide (x.n = a.n)) = true := by
    rw [List.any_eq_true]
    unfold putA
    split
    · rename_i h
      obtain ⟨x, hx, e⟩ := List.any_eq_true.mp h
      have e : x.n = a.n := of_decide_eq_true e
      exact ⟨a, List.mem_map.mpr ⟨x, hx, if_pos e⟩, by simp⟩
    · exact ⟨a, by simp, by simp⟩
  have e : putA (putA as a) a = (putA as a).map fun x => if x.n = a.n then a else x := by
    rw [putA, if_pos hany]
  rw [e]
  unfold putA
  split
  · rw [List.map_map]
    apply List.map_congr_left
    intro x _
    show (if (if x.n = a.n then a else x).n = a.n then a else (if x.n = a.n then a else x)) = if x.n = a.n then a else x
    by_cases h : x.n = a.n
    · rw [if_pos h, if_pos rfl]
    · rw [if_neg h, if_neg h]
  · rename_i h
    rw [List.map_append]
    have : as.map (fun x => if x.n = a.n then a else x) = as := by
      have : as.map (fun x => if x.n = a.n then a else x) = as.map id := by
        apply List.map_congr_left
        intro x hx
        rw [if_neg fun q => h (List.any_eq_true.mpr ⟨x, hx, by simpa using q⟩)]
        rfl
      rw [this, List.map_id]
    rw [this]
    simp
theorem fold_up {l : List Int} {st : HK × List Int} : st.1.upto ≤ (l.foldl HK.fstep st).1.upto := by
  induction l generalizing st with
  | nil => exact Int.le_refl _
  | cons n l ih =>
    rw [List.foldl_cons]
    refine Int.le_trans ?_ ih
    unfold HK.fstep
    cases h : findA st.1.aside n with
    | none => exact Int.le_refl _
    | some a =>
      dsimp only
      split
      · exact Int.le_refl _
      · split
        · have := findA_n h
          show st.1.upto ≤ (a.n : Int)
          omega
        · exact Int.le_refl _
theorem free_up (h : HK) : h.upto ≤ h.free.1.upto := fold_up (st := (h, []))
theorem hearK_twice (k : Nat) (h : HK) (l : Letter) : hearK k (hearK k h l).1 l = ((hearK k h l).1, []) := by
  cases l with
  | change n c ahead =>
    simp only [hearK]
    by_cases hk : c.key = k
    · simp only [if_pos hk]
      by_cases h1 : (n : Int) ≤ h.upto
      · have e : h.chg n c ahead = (h, []) := by rw [HK.chg, if_pos h1]
        rw [e]
        exact e
      · by_cases h2 : c.set = false ∧ h.upto < (ahead : Int)
        · have e : h.chg n c ahead = ({ h with aside := putA h.aside ⟨n, c.worth, ahead⟩ }, []) := by rw [HK.chg, if_neg h1, if_pos h2]
          rw [e]
          show HK.chg { h with aside := putA h.aside ⟨n, c.worth, ahead⟩ } n c ahead = _
          rw [HK.chg, if_neg h1, if_pos h2]
          simp only [putA_twice]
        · have e : h.chg n c ahead = (((h.done n c.set c.worth).free).1, (n : Int) :: ((h.done n c.set c.worth).free).2) := by rw [HK.chg, if_neg h1, if_neg h2]
          rw [e]
          have := free_up (h.done n c.set c.worth)
          have h3 : (n : Int) ≤ ((h.done n c.set c.worth).free).1.upto := this
          show HK.chg ((h.done n c.set c.worth).free).1 n c ahead = _
          rw [HK.chg, if_pos h3]
    · simp only [if_neg hk]
  | part n b rows =>
    simp only [hearK]
    by_cases hk : b ≤ k
    · simp only [if_pos hk]
      cases rows[k - b]? with
      | none => rfl
      | some r =>
        show HK.row (h.row n r.1 r.2).1 n r.1 r.2 = ((h.row n r.1 r.2).1, [])
        by_cases h1 : h.upto < (n : Int)
        · have e : h.row n r.1 r.2 = ({ h with worth := r.1, since := r.2, upto := n } : HK).free := by rw [HK.row, if_pos h1]
          rw [e]
          have h3 : (n : Int) ≤ (({ h with worth := r.1, since := r.2, upto := n } : HK).free).1.upto := free_up { h with worth := r.1, since := r.2, upto := n }
          rw [HK.row, if_neg (by omega)]
        · have e : h.row n r.1 r.2 = (h, []) := by rw [HK.row, if_neg h1]
          rw [e]
          exact e
    · simp only [if_neg hk]
  | beat n lasts =>
    simp only [hearK]
    cases lasts[k]? with
    | none => rfl
    | some x =>
      show ((h.beat n x).beat n x, ([] : List Int)) = (h.beat n x, [])
      congr 1
      unfold HK.beat
      by_cases h1 : (x : Int) ≤ h.upto ∧ h.upto < (n : Int)
      · rw [if_pos h1, if_neg fun q => absurd q.2 (Int.lt_irrefl _)]
      · rw [if_neg h1, if_neg h1]
theorem hear_get {hs : List HK} {l : Letter} {k : Nat} {h : HK} (e : hs[k]? = some h) : (hear hs l)[k]? = some (hearK k h l).1 := by
  rw [hear, List.getElem?_mapIdx, e]
  rfl
theorem hear_inv {hs : List HK} {l : Letter} {k : Nat} {h' : HK} (e : (hear hs l)[k]? = some h') : ∃ h, hs[k]? = some h ∧ h' = (hearK k h l).1 := by
  cases eh : hs[k]? with
  | none =>
    rw [hear, List.getElem?_mapIdx, eh] at e
    cases e
  | some h =>
    rw [hear_get eh] at e
    exact ⟨h, rfl, (Option.some.inj e).symm⟩
theorem heard_mem {hs : List HK} {l : Letter} {n : Int} (h : n ∈ heard hs l) : ∃ k g, hs[k]? = some g ∧ n ∈ (hearK k g l).2 := by
  obtain ⟨x, hx, hn⟩ := List.mem_flatten.mp h
  obtain ⟨k, hk⟩ := List.getElem?_of_mem hx
  rw [List.getElem?_mapIdx] at hk
  cases eh : hs[k]? with
  | none =>
    rw [eh] at hk
    cases hk
  | some g =>
    rw [eh] at hk
    have e : (hearK k g l).2 = x := Option.some.inj hk
    exact ⟨k, g, eh, by rw [e]; exact hn⟩
theorem hear_twice (hs : List HK) (l : Letter) : hear (hear hs l) l = hear hs l ∧ heard (hear hs l) l = [] := by
  constructor
  · apply List.ext_getElem?
    intro k
    cases eh : hs[k]? with
    | none => rw [List.getElem?_eq_none (by rw [hear_len, hear_len]; exact List.getElem?_eq_none_iff.mp eh), List.getElem?_eq_none (by rw [hear_len]; exact List.getElem?_eq_none_iff.mp eh)]
    | some h => rw [hear_get (hear_get eh), hear_get eh, hearK_twice]
  · refine List.eq_nil_iff_forall_not_mem.mpr fun n hn => ?_
    obtain ⟨k, g, e1, e2⟩ := heard_mem hn
    obtain ⟨h, e3, rfl⟩ := hear_inv e1
    rw [hearK_twice] at e2
    cases e2
/-- a hearer, all of whose keys are right -/
def AllI (nk : Nat) (cs : List Ch) (hs : List HK) : Prop := hs.length = nk ∧ ∀ k h, hs[k]? = some h → KI cs k h
theorem AllI.ini (nk : Nat) (cs : List Ch) : AllI nk cs (List.replicate nk HK.ini) := ⟨List.length_replicate, fun k h e => by
  rw [List.getElem?_replicate] at e
  split at e
  · cases e
    exact KI.ini cs k
  · cases e⟩
theorem AllI.told {nk : Nat} {cs : List Ch} {hs : List HK} {l : Letter} {k : Nat} {h : HK} (i : AllI nk cs hs) (hl : IsLet nk cs l) (e : hs[k]? = some h) : Told cs k h.upto (hearK k h l) :=
  hearK_told (i.2 k h e) (by have := (List.getElem?_eq_some_iff.mp e).1; have := i.1; omega) hl
theorem AllI.hear {nk : Nat} {cs : List Ch} {hs : List HK} {l : Letter} (i : AllI nk cs hs) (hl : IsLet nk cs l) : AllI nk cs (hear hs l) := ⟨by rw [hear_len]; exact i.1, fun k h e => by
  obtain ⟨g, eg, rfl⟩ := hear_inv e
  exact (i.told hl eg).inv⟩
theorem AllI.wf {nk : Nat} {cs : List Ch} {hs : List HK} (i : AllI nk cs hs) (hl : cs.length < 122) : ∀ h ∈ hs, Wf h := fun h hm => by
  obtain ⟨k, e⟩ := List.getElem?_of_mem hm
  exact (i.2 k h e).wf hl
theorem flat_le {α β : Type} {f : α → List β} {b : Nat} : ∀ {xs : List α}, (∀ x ∈ xs, (f x).length ≤ b) → ((xs.map f).flatten).length ≤ xs.length * b
  | [], _ => by simp
  | x :: xs, h => by
    have h1 := h x List.mem_cons_self
    have ih := flat_le (xs := xs) fun y hy => h y (List.mem_cons_of_mem _ hy)
    rw [List.map_cons, List.flatten_cons, List.length_append, List.length_cons, Nat.succ_mul]
    omega
theorem AllI.held {nk : Nat} {cs : List Ch} {hs : List HK} (i : AllI nk cs hs) (hl : cs.length ≤ 122) (hn : nk ≤ 8) : (hs.map fun h => asN h.aside).flatten.length ≤ 1000 := by
  have h1 := flat_le (f := fun h : HK => asN h.aside) (b := 122) (xs := hs) fun h hm => by
    obtain ⟨k, e⟩ := List.getElem?_of_mem hm
    have := (i.2 k h e).few
    rw [asN, List.length_map]
    omega
  have := i.1
  have h2 : hs.length * 122 ≤ 8 * 122 := Nat.mul_le_mul_right _ (by omega)
  omega
/-- the number's change is done -/
def Dn (cs : List Ch) (hs : List HK) (n : Int) : Prop := ∃ k h, hs[k]? = some h ∧ n ≤ h.upto ∧ IsN cs k n
section
variable {nk : Nat} {cs : List Ch} {hs : List HK} {l : Letter} {n : Int}
theorem Dn.hear (i : AllI nk cs hs) (hl : IsLet nk cs l) (h : Dn cs hs n) : Dn cs (hear hs l) n := by
  obtain ⟨k, g, e, h1, h2⟩ := h
  exact ⟨k, _, hear_get e, Int.le_trans h1 (i.told hl e).up, h2⟩
theorem heard_dn (i : AllI nk cs hs) (hl : IsLet nk cs l) (h : n ∈ heard hs l) : Dn cs (hear hs l) n ∧ ¬ Dn cs hs n := by
  obtain ⟨k, g, e1, e2⟩ := heard_mem h
  obtain ⟨q1, q2, q3⟩ := (i.told hl e1).num n e2
  refine ⟨⟨k, _, hear_get e1, q2, q3⟩, fun ⟨k', g', e3, q4, q5⟩ => ?_⟩
  have := q3.key q5
  subst this
  rw [e1] at e3
  cases e3
  omega
theorem flat_nodup : ∀ {xs : List (List Int)}, (∀ x ∈ xs, x.Nodup) → (∀ (i j : Nat) x y, xs[i]? = some x → xs[j]? = some y → i < j → ∀ n ∈ x, n ∉ y) → xs.flatten.Nodup
  | [], _, _ => by simp
  | x :: xs, h, q => by
    rw [List.flatten_cons]
    refine List.nodup_append.mpr ⟨h x List.mem_cons_self, flat_nodup (fun y hy => h y (List.mem_cons_of_mem _ hy)) fun i j y z ei ej hij => q (i + 1) (j + 1) y z (by simpa using ei) (by simpa using ej) (by omega), fun a ha b hb e => ?_⟩
    obtain ⟨y, hy, hby⟩ := List.mem_flatten.mp hb
    obtain ⟨j, hj⟩ := List.getElem?_of_mem hy
    subst e
    exact q 0 (j + 1) x y rfl (by simpa using hj) (by omega) a ha hby
theorem heard_nodup (i : AllI nk cs hs) (hl : IsLet nk cs l) : (heard hs l).Nodup := by
  have at_ : ∀ (j : Nat) (x : List Int), (hs.mapIdx fun k h => (hearK k h l).2)[j]? = some x → ∃ g, hs[j]? = some g ∧ x = (hearK j g l).2 := fun j x hx => by
    rw [List.getElem?_mapIdx] at hx
    cases eh : hs[j]? with
    | none =>
      rw [eh] at hx
      cases hx
    | some g =>
      rw [eh] at hx
      exact ⟨g, rfl, (Option.some.inj hx).symm⟩
  refine flat_nodup (fun x hx => ?_) fun a b x y ha hb hab m hm hm' => ?_
  · obtain ⟨j, hj⟩ := List.getElem?_of_mem hx
    obtain ⟨g, eg, rfl⟩ := at_ j x hj
    exact (i.told hl eg).rise.imp fun h => Int.ne_of_lt h
  · obtain ⟨g, eg, rfl⟩ := at_ a x ha
    obtain ⟨g', eg', rfl⟩ := at_ b y hb
    have := ((i.told hl eg).num m hm).2.2.key ((i.told hl eg').num m hm').2.2
    omega
theorem heard_bd (i : AllI nk cs hs) (hl : IsLet nk cs l) (h : n ∈ heard hs l) : 0 < n ∧ n ≤ cs.length := by
  obtain ⟨k, g, e1, e2⟩ := heard_mem h
  exact ((i.told hl e1).num n e2).2.2.bd
theorem heard_few (i : AllI nk cs hs) (hl : IsLet nk cs l) : (heard hs l).length ≤ cs.length := nodup_len (heard_nodup i hl) fun _ h => heard_bd i hl h
theorem held_not (i : AllI nk cs hs) (h : n ∈ heldM hs) : ¬ Dn cs hs n := by
  have h := (srt_perm _).mem_iff.mp h
  obtain ⟨x, hx, hn⟩ := List.mem_flatten.mp h
  obtain ⟨g, hg, rfl⟩ := List.mem_map.mp hx
  obtain ⟨k, ek⟩ := List.getElem?_of_mem hg
  obtain ⟨a, ha, rfl⟩ := List.mem_map.mp hn
  rintro ⟨k', g', e1, q1, q2⟩
  have hin := (i.2 k g ek).as a ha
  have := hin.isN.key q2
  subst this
  rw [ek] at e1
  cases e1
  have h1 := (i.2 k g ek).ahead a ha
  have h2 := hin.lt
  omega
theorem let_ok (hc : ∀ c ∈ cs, c.key < nk) (h : hs.length = nk) : IsLet nk cs l →
    match l with | .change _ ch _ => ch.key < hs.length | .part _ b rows => b + rows.length ≤ hs.length | .beat _ lasts => lasts.length = hs.length := by
  intro hl
  cases hl with
  | change e =>
    show _ < hs.length
    rw [h]
    exact hc _ (List.mem_of_getElem? e)
  | @part n b e hn hbe hek =>
    show b + (partRows cs n b (e - b)).length ≤ hs.length
    rw [partRows, List.length_map, List.length_range]
    omega
  | beat hn =>
    show ((List.range nk).map _).length = hs.length
    rw [List.length_map, List.length_range]
    omega
end
theorem set_srt {ns ms : List Int} (nd : ns.Nodup) (h1 : ms.Pairwise (· < ·)) (h2 : ∀ k : Int, k ∈ ms ↔ decide (k ∈ ns) = true) : ms = srt ns := by
  refine srt_eq ?_ (h1.imp fun h => Int.le_of_lt h)
  exact (List.perm_ext_iff_of_nodup (h1.imp fun h => Int.ne_of_lt h) nd).mpr fun a => by rw [h2 a, decide_eq_true_eq]
end Cu

namespace Cu
open PySem PySem.Spec PyProof.Rows L2
theorem mk_tr {H : Hp} {x dx C : Addr} (h1 : H x = none) (h2 : H dx = none) (n : dx ≠ x) : Tr H [] (upd (upd H dx (.own x)) x (.ins C dx [])) [(x, .ins C dx [])] :=
  ((Tr.refl H []).old h2).new (by rw [upd_ne n.symm]; exact h1) nins
theorem inV_ints (n : Int) (ns : List Int) : inV (.int n) (ns.map V.int) = decide (n ∈ ns) := by
  induction ns with
  | nil => rfl
  | cons m ns ih =>
    have e : inV (.int n) ((m :: ns).map V.int) = (eqV (.int m) (.int n) || inV (.int n) (ns.map V.int)) := rfl
    rw [e, ih]
    have e2 : eqV (.int m) (.int n) = decide (m = n) := by
      by_cases h : m = n <;> simp [eqV, h]
    rw [e2]
    by_cases h : m = n
    · simp [h]
    · simp [h, Ne.symm h]
theorem flat_ints (ns : List Int) : (ns.map V.int).all flatV = true := by
  rw [List.all_eq_true]
  intro x hx
  obtain ⟨n, _, rfl⟩ := List.mem_map.mp hx
  rfl
theorem int_get {ns : List Int} {i : Nat} {x : V} (h : (ns.map V.int)[i]? = some x) : ∃ n, ns[i]? = some n ∧ x = .int n := by
  rw [List.getElem?_map] at h
  cases e : ns[i]? with
  | none =>
    rw [e] at h
    cases h
  | some n =>
    rw [e] at h
    exact ⟨n, rfl, (Option.some.inj h).symm⟩
theorem Dp.ints' {K : PySem.W.Frag} {H : Hp} {a : Addr} {ns : List Int} (h : H a = some (.lst (ns.map V.int))) : Dp K H (.ref a) (ilst ns) := Dp.ints (SqL.of h)
theorem Dp.il {K : PySem.W.Frag} {H : Hp} {a : Addr} {ns : List Int} (h : SqL K H a (ns.map V.int)) : Dp K H (.ref a) (ilst ns) := Dp.ints h
def spLaw (K : PySem.W.Frag) : Sp := fun vs H Q _ => vs.length = 1 ∧ ∃ (c : Addr) (ns : List Int), vs = [.ref c] ∧ ns.length ≤ 63 ∧ FzL K H c (ns.map V.int) ∧ ∀ H', Q (.bl true) H'
end Cu

namespace Cu
open PySem PySem.Spec PyProof.Rows L2
abbrev s_letter : Stmt := (top 17)
theorem sc_letter : FnScope ["_law_d", "_law_keys", "_law_rows", "_law_letters", "_law_kind", "_law_number", "_law_begin"] ["_law_d", "_law_keys", "_law_rows", "_law_letters"] (defScope s_letter) := ⟨rfl, rfl, rfl, by decide +kernel, rfl, by decide +kernel, by decide +kernel⟩

def spLetter1 (K : PySem.W.Frag) : Sp := fun vs H Q _ => vs.length = 4 ∧ ∃ (a : Addr) (nk : Nat) (cs : List Ch) (vr vl : V) (R : Lg), vs = [.ref a, .int nk, vr, vl] ∧ 0 < nk ∧ nk ≤ 8 ∧ cs.length ≤ 1000 ∧ Dice K H a R ∧ Rp K H (.list (rowsD nk cs)) vr ∧ Rp K H (.list ((lets cs).map Letter.enc)) vl ∧
  ∀ (l : Letter) (v : V) (H' : Hp), IsLet nk cs l → Mono H H' → Dice K H' a R → Rp K H' l.enc v → Q v H'
section
variable {P : Program} {w : World} {K : PySem.W.Frag} {mg : Str → Option Value} {base : Heap}
theorem ok_letter1 (F : Fd K mg "_law_letter" s_letter) (Bm : Blt mg) (g_next : Gf P w K mg base 1 "_law_next" ["_law_dice_here", "_law_many"] (spNext K)) (g_part : Gf P w K mg base 1 "_law_part" ["_law_rows", "_law_number", "_law_begin", "_law_end"] (spPart K)) (g_beat : Gf P w K mg base 1 "_law_beat" ["_law_rows", "_law_number"] (spBeat K)) :
    Gf P w K mg base 2 "_law_letter" ["_law_d", "_law_keys", "_law_rows", "_law_letters"] (spLetter1 K) := by
  refine F.ok sc_letter (fun _ _ _ _ _ _ us hl => match us, hl with | [_, _, _, _], _ => rfl) len_of fun qual f cdv A outer s H vs Q E hr h => ?_
  obtain ⟨_, a, nk, cs, vr, vl, R, rfl, hk, hk8, hcl, d, rr, rl, go⟩ := h
  refine ⟨_, (pss_cons (ps_set (i := 4) sc_letter.nd rfl (Or.inl rfl) (pc g_next hr (pa_cons (pv 0) (pa_cons pe_int pa_nil))))
      (pss_cons (ps_set (i := 5) sc_letter.nd rfl (Or.inl rfl) (pc g_next hr (pa_cons (pv 0) (pa_cons (pe_callB call_len_seq rfl Bm.len (by decide +kernel) (pa_cons (pv 2) pa_nil)) pa_nil))))
      (pss_cons (ps_if (PW.pt (pw_and (pt_cmpR op_lt (pv 4) pe_int (nomark _)) (pw_and1 (pt_cmpR (op_neD hr.units) (pv 3) (pe_lst pa_nil) (nomark _)))))
        (pss_one (ps_ret (pe_ix ix_list (pv 3) (pc g_next hr (pa_cons (pv 0) (pa_cons (pe_callB call_len_seq rfl Bm.len (by decide +kernel) (pa_cons (pv 3) pa_nil)) pa_nil))) (fun _ _ => rfl))))
        pss_nil)
      (pss_cons (ps_if (pt_cmpR op_eq (pv 4) pe_int (nomark _))
        (pss_one (ps_ret (pc g_beat hr (pa_cons (pv 2) (pa_cons (pv 5) pa_nil)))))
        pss_nil)
      (pss_cons (ps_set (i := 6) sc_letter.nd rfl (Or.inl rfl) (pc g_next hr (pa_cons (pv 0) (pa_cons (pv 1) pa_nil))))
      (pss_one (ps_ret (pc g_part hr (pa_cons (pv 2) (pa_cons (pv 5) (pa_cons (pv 6) (pa_cons (pe_op op_add (pe_op op_add (pv 6) pe_int) (pc g_next hr (pa_cons (pv 0) (pa_cons (pe_op op_sub (pv 1) (pv 6)) pa_nil)))) pa_nil)))))))))))), ?_⟩
  obtain ⟨ar, xr, rfl, fr, rxr⟩ := id rr.lst_inv
  obtain ⟨al, xl, rfl, fl, rxl⟩ := id rl.lst_inv
  have hxr : xr.length = cs.length + 1 := by rw [rxr.length, rowsD_length]
  have hxl : xl.length = cs.length := by rw [rxl.length, List.length_map, lets_length]
  refine ⟨_, rfl, rfl, a, 8, R, rfl, by decide, by decide, d, fun r1 H1 p1 q1 m1 d1 => ?_⟩
  refine ⟨_, rfl, _, rfl, ar, xr, rfl, .inl (fr.mono m1).sq, rfl, a, (xr.length : Int), R, rfl, by omega, by omega, d1, fun r2 H2 p2 q2 m2 d2 => ?_⟩
  obtain ⟨n, rfl, hn⟩ : ∃ n : Nat, r2 = n ∧ n ≤ cs.length := ⟨r2.toNat, by omega, by omega⟩
  have m12 := m1.trans m2
  -- the rest behind the first if
  have rest : ∀ H3, Mono H H3 → Dice K H3 a R → tSeq (tIfS (tB (tOp rEq (tVar 4) (tC (.int 7)))) (tRet (tCall (spBeat K) [] E0 (tCons (tVar 2) (tCons (tVar 5) tNil)))) tNext)
      (tSeq (tAsg (tCall (spNext K) [] E0 (tCons (tVar 0) (tCons (tVar 1) tNil))) (gName 6)) (tRet (tCall (spPart K) [] E0 (tCons (tVar 2) (tCons (tVar 5) (tCons (tVar 6) (tCons (tOp (rI0 fun i j => .int (i + j)) (tOp (rI0 fun i j => .int (i + j)) (tVar 6) (tC (.int 1))) (tCall (spNext K) [] E0 (tCons (tVar 0) (tCons (tOp (rI0 fun i j => .int (i - j)) (tVar 1) (tVar 6)) tNil)))) tNil)))))))
      { nx := fun _ H' => Q .non H', rt := Q } [some (.ref a), some (.int nk), some (.ref ar), some (.ref al), some (.int r1), some (.int n), none] H3 := fun H3 m3 d3 => by
    refine ⟨_, rfl, rfl, _, rfl, ite2 (fun h0 => ?_) fun h0 => ?_⟩
    · exact ⟨_, rfl, _, rfl, rfl, nk, n, cs, _, rfl, hk8, hn, rr.mono m3, fun u H4 g4 r4 => go _ _ _ (.beat hn) (m3.trans g4.mono) (d3.grow g4) r4⟩
    · refine ⟨_, rfl, _, rfl, rfl, a, nk, R, rfl, by omega, by omega, d3, fun r4 H4 p4 q4 m4 d4 => ?_⟩
      obtain ⟨b, rfl, hb⟩ : ∃ b : Nat, r4 = b ∧ b < nk := ⟨r4.toNat, by omega, by omega⟩
      refine ⟨_, rfl, _, rfl, _, rfl, _, rfl, _, _, rfl, rfl, _, rfl, _, rfl, _, rfl, _, _, rfl, rfl, rfl, a, (nk : Int) - b, R, rfl, by omega, by omega, d4, fun r5 H5 p5 q5 m5 d5 => ⟨_, _, rfl, rfl, ?_⟩⟩
      obtain ⟨e, ee⟩ : ∃ e : Nat, (b : Int) + 1 + r5 = e := ⟨((b : Int) + 1 + r5).toNat, by omega⟩
      refine ⟨rfl, nk, n, b, e, cs, _, (by
        show [V.ref ar, V.int (n : Int), V.int (b : Int), V.int ((b : Int) + 1 + r5)] = _
        rw [ee]), hk8, hn, by omega, by omega, ((rr.mono m3).mono m4).mono m5, fun u H6 g6 r6 => go _ _ _ (.part hn (by omega) (by omega)) (((m3.trans m4).trans m5).trans g6.mono) (d5.grow g6) r6⟩
  refine ⟨_, rfl, _, _, rfl, rfl, _, rfl, ite2 (fun h0 => ?_) fun h0 => ?_⟩
  · refine ⟨_, rfl, (by show 0 ≤ sizeLine; decide), fun e0 he0 => ?_⟩
    have me := Mono.new (o := .lst []) he0
    have rl3 := (rl.mono m12).mono me
    refine ⟨_, _, rl3.dp, Dp.nil upd_same, (Gd.letters (lets cs)).shaped, (Gd.nil (n := 0)).shaped, _, rfl, ?_⟩
    rw [eqv_nil]
    have d3 := d2.old (o := .lst []) he0
    cases hcs : lets cs with
    | nil => exact iteM (by decide) (rest _ (m12.trans me) d3)
    | cons l0 ls0 =>
      have hpos : 0 < cs.length := by
        have := lets_length cs
        rw [hcs] at this
        rw [← this]
        exact Nat.succ_pos _
      refine iteP (by rfl) ?_
      refine ⟨_, rfl, _, rfl, _, rfl, al, xl, rfl, .inl ((fl.mono m12).mono me).sq, rfl, a, (xl.length : Int), R, rfl, by omega, by omega, d3, fun r4 H4 p4 q4 m4 d4 => ?_⟩
      have hr4 : r4.toNat < cs.length := by omega
      obtain ⟨c, ec⟩ : ∃ c, cs[r4.toNat]? = some c := ⟨cs[r4.toNat], List.getElem?_eq_getElem hr4⟩
      obtain ⟨y, ey, ry⟩ := (((rxl.mono m12).mono me).mono m4).get (i := r4.toNat) (d := (Letter.change (r4.toNat + 1) c (lof (cs.take r4.toNat) c.key)).enc) (by rw [List.getElem?_map, lets_get ec]; rfl)
      exact ⟨al, _, _, _, rfl, rfl, (((fl.mono m12).mono me).mono m4).sq, at_of (j := r4.toNat) (by omega) ey, go _ _ _ (.change ec) ((m12.trans me).trans m4) d4 ry⟩
  · exact iteM (by decide) (rest _ m12 d2)
end
end Cu

namespace Cu
open PySem PySem.Spec PyProof.Rows L2
abbrev s_counts : Stmt := (top 12)
theorem sc_counts : FnScope ["_law_d", "_law_keys"] ["_law_d"] (defScope s_counts) := ⟨rfl, rfl, rfl, by decide +kernel, rfl, by decide +kernel, by decide +kernel⟩

def spCounts (K : PySem.W.Frag) : Sp := fun vs H Q _ => vs.length = 1 ∧ ∃ (a : Addr) (R : Lg), vs = [.ref a] ∧ Dice K H a R ∧
  ∀ (nk keep : Nat) (t : Addr) (H' : Hp), 0 < nk → nk ≤ 8 → keep ≤ 20 → Mono H H' → Dice K H' a R → H' t = some (.tup [.int nk, .int keep]) → Q (.ref t) H'
section
variable {P : Program} {w : World} {K : PySem.W.Frag} {mg : Str → Option Value} {base : Heap}
theorem ok_counts (F : Fd K mg "_law_counts" s_counts) (Bm : Blt mg) (g_next : Gf P w K mg base 1 "_law_next" ["_law_dice_here", "_law_many"] (spNext K)) : Gf P w K mg base 2 "_law_counts" ["_law_d"] (spCounts K) := by
  refine F.ok sc_counts (fun _ _ _ _ _ _ us hl => match us, hl with | [_], _ => rfl) len_of fun qual f cdv A outer s H vs Q E hr h => ?_
  obtain ⟨_, a, R, rfl, d, go⟩ := h
  refine ⟨_, (pss_cons (ps_set (i := 1) sc_counts.nd rfl (Or.inl rfl) (pe_ix ix_list (pe_lst (pa_cons (pe_op op_add pe_int (pc g_next hr (pa_cons (pv 0) (pa_cons pe_int pa_nil)))) (pa_cons (pe_op op_add pe_int (pc g_next hr (pa_cons (pv 0) (pa_cons pe_int pa_nil)))) pa_nil))) (pc g_next hr (pa_cons (pv 0) (pa_cons pe_int pa_nil))) (fun _ _ => rfl)))
      (pss_one (ps_ret (pe_tup (pa_cons (pv 1) (pa_cons (pe_ix ix_list (pe_lst (pa_cons (pc g_next hr (pa_cons (pv 0) (pa_cons pe_int pa_nil))) (pa_cons (pc g_next hr (pa_cons (pv 0) (pa_cons pe_int pa_nil))) pa_nil))) (pc g_next hr (pa_cons (pv 0) (pa_cons pe_int pa_nil))) (fun _ _ => rfl)) pa_nil)))))), ?_⟩
  refine ⟨_, rfl, rfl, a, 3, R, rfl, by decide, by decide, d, fun r1 H1 p1 q1 m1 d1 => ⟨_, _, rfl, rfl, ?_⟩⟩
  refine ⟨_, rfl, rfl, a, 8, R, rfl, by decide, by decide, d1, fun r2 H2 p2 q2 m2 d2 => ⟨_, _, rfl, rfl, ?_⟩⟩
  refine ⟨(by show 2 ≤ sizeLine; decide), fun l hl => ?_⟩
  refine ⟨_, rfl, rfl, a, 2, _, rfl, by decide, by decide, d2.new (o := .lst [.int (1 + r1), .int (1 + r2)]) hl nl, fun r3 H3 p3 q3 m3 d3 => ?_⟩
  obtain ⟨v, hv, hm⟩ := at_some (xs := [.int (1 + r1), .int (1 + r2)]) p3 q3
  obtain ⟨nk, rfl, hk, hk8⟩ : ∃ nk : Nat, v = V.int nk ∧ 0 < nk ∧ nk ≤ 8 := by
    simp only [List.mem_cons, List.not_mem_nil, or_false] at hm
    rcases hm with e | e
    · exact ⟨(1 + r1).toNat, by rw [e]; congr 1; omega, by omega, by omega⟩
    · exact ⟨(1 + r2).toNat, by rw [e]; congr 1; omega, by omega, by omega⟩
  refine ⟨l, _, _, _, rfl, rfl, SqL.of d3.at_, hv, ?_⟩
  have d4 := d3.tail
  refine ⟨_, rfl, _, rfl, rfl, a, 7, R, rfl, by decide, by decide, d4, fun r5 H5 p5 q5 m5 d5 => ?_⟩
  refine ⟨_, rfl, rfl, a, 21, R, rfl, by decide, by decide, d5, fun r6 H6 p6 q6 m6 d6 => ⟨(by show 2 ≤ sizeLine; decide), fun l2 hl2 => ?_⟩⟩
  refine ⟨_, rfl, rfl, a, 2, _, rfl, by decide, by decide, d6.new (o := .lst [.int r5, .int r6]) hl2 nl, fun r7 H7 p7 q7 m7 d7 => ?_⟩
  obtain ⟨v, hv, hm⟩ := at_some (xs := [.int r5, .int r6]) p7 q7
  obtain ⟨keep, rfl, hkp⟩ : ∃ keep : Nat, v = V.int keep ∧ keep ≤ 20 := by
    simp only [List.mem_cons, List.not_mem_nil, or_false] at hm
    rcases hm with e | e
    · exact ⟨r5.toNat, by rw [e]; congr 1; omega, by omega⟩
    · exact ⟨r6.toNat, by rw [e]; congr 1; omega, by omega⟩
  refine ⟨l2, _, _, _, rfl, rfl, SqL.of d7.at_, hv, ⟨(by show 2 ≤ sizeLine; decide), fun t ht => ?_⟩⟩
  exact go nk keep t _ hk hk8 hkp (((((((m1.trans m2).trans (Mono.new hl)).trans m3).trans m5).trans m6).trans (Mono.new hl2)).trans (m7.trans (Mono.new ht))) (d7.tail.old ht) upd_same
end
end Cu

namespace Cu
open PySem PySem.Spec PyProof.Rows L2
/-! alike, by types too: the same data -/
theorem ps_dead {X : Cx} {st : Stmt} : PS X st (fun _ _ _ => False) := ⟨fun _ _ _ _ _ _ h => h.elim⟩
def rIxA (K : PySem.W.Frag) : R2 := fun x y H Q => rIxL K x y H Q ∨ rIxT K x y H Q
theorem ix_any {X : Cx} : IxR X (rIxA X.K) := by
  intro value slice pins s σ H x y v u Q I rx ry h hs
  rcases h with h | h
  · exact ix_list value slice pins s σ H x y v u Q I rx ry h hs
  · exact ix_tup value slice pins s σ H x y v u Q I rx ry h hs
theorem sqL_ty {K : PySem.W.Frag} {H : Hp} {a : Addr} {xs : List V} (h : SqL K H a xs) : TyX K H (.ref a) (.type "list") := by
  rcases h with (h | ⟨o, h⟩) | ⟨o, its, n, h1, h2, _⟩
  · exact .base (.lst h)
  · exact .base (.frz h)
  · exact .kList h1 h2
theorem sqT_ty {K : PySem.W.Frag} {H : Hp} {a : Addr} {xs : List V} (h : SqT K H a xs) : TyX K H (.ref a) (.type "tuple") := by
  rcases h with (h | ⟨o, h⟩) | ⟨o, its, n, h1, h2, _⟩
  · exact .base (.tup h)
  · exact .fTuple h
  · exact .kTuple h1 h2
theorem dpAll_get {K : PySem.W.Frag} {H : Hp} : ∀ {xs : List V} {ds : List PyData}, DpAll K H xs ds → ∀ {k : Nat}, k < xs.length → ∃ x d, xs[k]? = some x ∧ ds[k]? = some d ∧ Dp K H x d
  | _, _, .nil, _, h => absurd h (Nat.not_lt_zero _)
  | _, _, .cons h hs, 0, _ => ⟨_, _, rfl, rfl, h⟩
  | _, _, .cons h hs, k + 1, hk => dpAll_get hs (Nat.lt_of_succ_lt_succ hk)
theorem dpAll_len {K : PySem.W.Frag} {H : Hp} : ∀ {xs : List V} {ds : List PyData}, DpAll K H xs ds → xs.length = ds.length
  | _, _, .nil => rfl
  | _, _, .cons _ hs => congrArg (· + 1) (dpAll_len hs)
theorem depth_mem : ∀ {ds : List PyData} {d : PyData}, d ∈ ds → d.depth ≤ PyData.depthAll ds
  | e :: ds, d, h => by
    rw [PyData.depthAll]
    rcases List.mem_cons.mp h with h | h
    · rw [h]
      exact Nat.le_max_left _ _
    · exact Nat.le_trans (depth_mem h) (Nat.le_max_right _ _)
mutual
def wid : PyData → Nat
  | .list xs | .tuple xs => max xs.length (widAll xs)
  | _ => 0
def widAll : List PyData → Nat
  | [] => 0
  | x :: xs => max (wid x) (widAll xs)
end
theorem wid_mem : ∀ {ds : List PyData} {d : PyData}, d ∈ ds → wid d ≤ widAll ds
  | e :: ds, d, h => by
    rw [widAll]
    rcases List.mem_cons.mp h with h | h
    · rw [h]
      exact Nat.le_max_left _ _
    · exact Nat.le_trans (wid_mem h) (Nat.le_max_right _ _)
theorem canMem : ∀ {ds : List PyData} {d : PyData}, PyData.canLayAll0 ds = true → d ∈ ds → d.canLay0 = true
  | e :: ds, d, hc, h => by
    have hc : e.canLay0 = true ∧ PyData.canLayAll0 ds = true := by simpa [PyData.canLayAll0] using hc
    rcases List.mem_cons.mp h with h | h
    · rw [h]
      exact hc.1
    · exact canMem hc.2 h
abbrev s_like : Stmt := (top 10)
theorem sc_like : FnScope ["_law_found", "_law_due", "_law_k", "_law_key"] ["_law_found", "_law_due"] (defScope s_like) := ⟨rfl, rfl, rfl, by decide +kernel, rfl, by decide +kernel, by decide +kernel⟩

def spLike (K : PySem.W.Frag) (n : Nat) : Sp := fun vs H Q _ => vs.length = 2 ∧ ∃ (d : PyData) (x y : V), vs = [x, y] ∧ Dp K H x d ∧ Dp K H y d ∧ d.canLay0 = true ∧ d.depth < n ∧ wid d ≤ 1000 ∧ Q (.bl true) H
section
variable {P : Program} {w : World} {K : PySem.W.Frag} {mg : Str → Option Value} {base : Heap}
theorem like_zero (F : Fd K mg "_law_like" s_like) : Gf P w K mg base 0 "_law_like" ["_law_found", "_law_due"] (spLike K 0) := by
  obtain ⟨f, fd, F, hm⟩ := F.ex
  have no : ∀ {vs H Q E}, spLike K 0 vs H Q E → False := fun ⟨_, _, _, _, _, _, _, _, h, _⟩ => Nat.not_lt_zero _ h
  exact ⟨f, fd, ⟨fun _ _ _ _ h => (no h).elim, fun _ _ _ _ _ _ _ _ _ _ _ _ _ h => (no h).elim⟩, hm, F.kp, F.binds fun _ _ _ _ _ _ us hl => match us, hl with | [_, _], _ => rfl⟩
theorem like_step (F : Fd K mg "_law_like" s_like) (Bm : Blt mg) {n : Nat} (g_like : Gf P w K mg base n "_law_like" ["_law_found", "_law_due"] (spLike K n)) : Gf P w K mg base (n + 1) "_law_like" ["_law_found", "_law_due"] (spLike K (n + 1)) := by
  refine F.ok sc_like (fun _ _ _ _ _ _ us hl => match us, hl with | [_, _], _ => rfl) len_of fun qual f cdv A outer s H vs Q E hr h => ?_
  obtain ⟨_, d, x, y, rfl, dx, dy, hl, hd, hw, go⟩ := h
  refine ⟨_, (pss_cons (ps_if (pt_val (pe_callB call_isi rfl Bm.isinstance (by decide +kernel) (pa_cons (pv 1) (pa_cons (pe_bltn (v := .ty "bool") (u := .type "bool") rfl Bm.bool (by decide +kernel) rfl) pa_nil))))
        (pss_one (ps_ret (pe_and (pe_callB call_isi rfl Bm.isinstance (by decide +kernel) (pa_cons (pv 0) (pa_cons (pe_bltn (v := .ty "bool") (u := .type "bool") rfl Bm.bool (by decide +kernel) rfl) pa_nil))) (pe_one (pe_cmpR (op_eqD hr.units) (pv 0) (pv 1) (nomark _))))))
        pss_nil)
      (pss_cons (ps_if (pt_val (pe_callB call_isi rfl Bm.isinstance (by decide +kernel) (pa_cons (pv 1) (pa_cons (pe_bltn (v := .ty "str") (u := .type "str") rfl Bm.str (by decide +kernel) rfl) pa_nil))))
        (pss_one (ps_ret (pe_and (pe_callB call_isi rfl Bm.isinstance (by decide +kernel) (pa_cons (pv 0) (pa_cons (pe_bltn (v := .ty "str") (u := .type "str") rfl Bm.str (by decide +kernel) rfl) pa_nil))) (pe_one (pe_cmpR (op_eqD hr.units) (pv 0) (pv 1) (nomark _))))))
        pss_nil)
      (pss_cons (ps_if (pt_val (pe_callB call_isi rfl Bm.isinstance (by decide +kernel) (pa_cons (pv 1) (pa_cons (pe_bltn (v := .ty "int") (u := .type "int") rfl Bm.int (by decide +kernel) rfl) pa_nil))))
        (pss_one (ps_ret (pe_and (pe_callB call_isi rfl Bm.isinstance (by decide +kernel) (pa_cons (pv 0) (pa_cons (pe_bltn (v := .ty "int") (u := .type "int") rfl Bm.int (by decide +kernel) rfl) pa_nil))) (pe_and (pe_not (pe_callB call_isi rfl Bm.isinstance (by decide +kernel) (pa_cons (pv 0) (pa_cons (pe_bltn (v := .ty "bool") (u := .type "bool") rfl Bm.bool (by decide +kernel) rfl) pa_nil)))) (pe_one (pe_cmpR (op_eqD hr.units) (pv 0) (pv 1) (nomark _)))))))
        pss_nil)
      (pss_cons (ps_if (pt_cmpR op_isN (pv 1) pe_non (nomark _))
        (pss_one (ps_ret (pe_cmpR op_isN (pv 0) pe_non (nomark _))))
        pss_nil)
      (pss_cons (ps_if (pt_val (pe_callB call_isi rfl Bm.isinstance (by decide +kernel) (pa_cons (pv 1) (pa_cons (pe_bltn (v := .ty "dict") (u := .type "dict") rfl Bm.dict (by decide +kernel) rfl) pa_nil))))
        (pss_cons ps_dead
        (pss_one ps_dead))
        pss_nil)
      (pss_cons (ps_if (PW.pt (pw_or (pt_cmpR op_ne (pe_callB call_isi rfl Bm.isinstance (by decide +kernel) (pa_cons (pv 1) (pa_cons (pe_bltn (v := .ty "tuple") (u := .type "tuple") rfl Bm.tuple (by decide +kernel) rfl) pa_nil))) (pe_callB call_isi rfl Bm.isinstance (by decide +kernel) (pa_cons (pv 0) (pa_cons (pe_bltn (v := .ty "tuple") (u := .type "tuple") rfl Bm.tuple (by decide +kernel) rfl) pa_nil))) (nomark _)) (pw_or1 (pt_cmpR op_ne (pe_callB call_isi rfl Bm.isinstance (by decide +kernel) (pa_cons (pv 1) (pa_cons (pe_bltn (v := .ty "list") (u := .type "list") rfl Bm.list (by decide +kernel) rfl) pa_nil))) (pe_callB call_isi rfl Bm.isinstance (by decide +kernel) (pa_cons (pv 0) (pa_cons (pe_bltn (v := .ty "list") (u := .type "list") rfl Bm.list (by decide +kernel) rfl) pa_nil))) (nomark _)))))
        (pss_one (ps_ret pe_bl))
        pss_nil)
      (pss_cons (ps_if (pt_cmpR op_ne (pe_callB call_len_seq rfl Bm.len (by decide +kernel) (pa_cons (pv 0) pa_nil)) (pe_callB call_len_seq rfl Bm.len (by decide +kernel) (pa_cons (pv 1) pa_nil)) (nomark _))
        (pss_one (ps_ret pe_bl))
        pss_nil)
      (pss_cons (ps_for PassesOwn.never rfl (pi_range1 rfl Bm.range (pa_cons (pe_callB call_len_seq rfl Bm.len (by decide +kernel) (pa_cons (pv 1) pa_nil)) pa_nil)) (pg_name (i := 2) sc_like.nd rfl (Or.inl rfl))
        (pss_one (ps_if (pt_not (pt_val (pc g_like hr (pa_cons (pe_ix ix_any (pv 0) (pv 2) (fun _ _ => rfl)) (pa_cons (pe_ix ix_any (pv 1) (pv 2) (fun _ _ => rfl)) pa_nil)) (hj := Nat.le_refl _))))
          (pss_one (ps_ret pe_bl))
          pss_nil)))
      (pss_one (ps_ret pe_bl)))))))))), ?_⟩
  cases d with
  | none =>
    cases dx
    cases dy
    have t : TyX K H .non (.type "NoneType") := .base .non
    refine ⟨_, rfl, _, _, _, _, false, rfl, ClsV.ty _, t, kit_ty (by decide +kernel), _, rfl, iteM (by decide) ?_⟩
    refine ⟨_, rfl, _, _, _, _, false, rfl, ClsV.ty _, t, kit_ty (by decide +kernel), _, rfl, iteM (by decide) ?_⟩
    refine ⟨_, rfl, _, _, _, _, false, rfl, ClsV.ty _, t, kit_ty (by decide +kernel), _, rfl, iteM (by decide) ?_⟩
    refine ⟨_, rfl, rfl, _, rfl, iteP (by decide) ?_⟩
    exact ⟨_, rfl, rfl, go⟩
  | bool b =>
    cases dx
    cases dy
    have t : TyX K H (.bl b) (.type "bool") := .base (.bl b)
    refine ⟨_, rfl, _, _, _, _, true, rfl, ClsV.ty _, t, kit_ty (by decide +kernel), _, rfl, iteP (by decide) ?_⟩
    refine ⟨_, rfl, _, _, _, _, true, rfl, ClsV.ty _, t, kit_ty (by decide +kernel), ?_⟩
    refine ⟨_, rfl, iteP rfl ?_⟩
    refine ⟨_, rfl, _, rfl, _, _, Dp.bl b, Dp.bl b, (Gd.bool (n := 0)).shaped, (Gd.bool (n := 0)).shaped, ?_⟩
    rw [(Gd.bool (n := 0) (b := b)).refl]
    exact go
  | int i =>
    cases dx
    cases dy
    have t : TyX K H (.int i) (.type "int") := .base (.int i)
    refine ⟨_, rfl, _, _, _, _, false, rfl, ClsV.ty _, t, kit_ty (by decide +kernel), _, rfl, iteM (by decide) ?_⟩
    refine ⟨_, rfl, _, _, _, _, false, rfl, ClsV.ty _, t, kit_ty (by decide +kernel), _, rfl, iteM (by decide) ?_⟩
    refine ⟨_, rfl, _, _, _, _, true, rfl, ClsV.ty _, t, kit_ty (by decide +kernel), _, rfl, iteP (by decide) ?_⟩
    refine ⟨_, rfl, _, _, _, _, true, rfl, ClsV.ty _, t, kit_ty (by decide +kernel), _, rfl, iteP rfl ?_⟩
    refine ⟨_, rfl, _, _, _, _, false, rfl, ClsV.ty _, t, kit_ty (by decide +kernel), _, rfl, _, rfl, iteP rfl ?_⟩
    refine ⟨_, rfl, _, rfl, _, _, Dp.int i, Dp.int i, (Gd.int (n := 0)).shaped, (Gd.int (n := 0)).shaped, ?_⟩
    rw [(Gd.int (n := 0) (i := i)).refl]
    exact go
  | str z =>
    cases dx
    cases dy
    have t : TyX K H (.str z) (.type "str") := .base (.str z)
    refine ⟨_, rfl, _, _, _, _, false, rfl, ClsV.ty _, t, kit_ty (by decide +kernel), _, rfl, iteM (by decide) ?_⟩
    refine ⟨_, rfl, _, _, _, _, true, rfl, ClsV.ty _, t, kit_ty (by decide +kernel), _, rfl, iteP (by decide) ?_⟩
    refine ⟨_, rfl, _, _, _, _, true, rfl, ClsV.ty _, t, kit_ty (by decide +kernel), _, rfl, iteP rfl ?_⟩
    have hz : Gd 0 (.str z) := ⟨hl, by simp [PyData.depth]⟩
    refine ⟨_, rfl, _, rfl, _, _, Dp.str z, Dp.str z, hz.shaped, hz.shaped, ?_⟩
    rw [hz.refl]
    exact go
  | list ds =>
    cases dx with
    | @lst ax xs _ sx ex =>
    cases dy with
    | @lst ay ys _ sy ey =>
    have tx := sqL_ty sx
    have ty := sqL_ty sy
    have lx := dpAll_len ex
    have ly := dpAll_len ey
    have hwl : ds.length ≤ 1000 := Nat.le_trans (Nat.le_max_left _ _) hw
    refine ⟨_, rfl, _, _, _, _, false, rfl, ClsV.ty _, ty, kit_ty (by decide +kernel), _, rfl, iteM (by decide) ?_⟩
    refine ⟨_, rfl, _, _, _, _, false, rfl, ClsV.ty _, ty, kit_ty (by decide +kernel), _, rfl, iteM (by decide) ?_⟩
    refine ⟨_, rfl, _, _, _, _, false, rfl, ClsV.ty _, ty, kit_ty (by decide +kernel), _, rfl, iteM (by decide) ?_⟩
    refine ⟨_, rfl, rfl, _, rfl, iteM (by simp) ?_⟩
    refine ⟨_, rfl, _, _, _, _, false, rfl, ClsV.ty _, ty, kit_ty (by decide +kernel), _, rfl, iteM (by decide) ?_⟩
    refine ⟨_, rfl, _, _, _, _, false, rfl, ClsV.ty _, ty, kit_ty (by decide +kernel), _, rfl, _, _, _, _, false, rfl, ClsV.ty _, tx, kit_ty (by decide +kernel), rfl, _, rfl, iteM (by decide) ?_⟩
    refine ⟨_, rfl, _, _, _, _, true, rfl, ClsV.ty _, ty, kit_ty (by decide +kernel), _, rfl, _, _, _, _, true, rfl, ClsV.ty _, tx, kit_ty (by decide +kernel), rfl, _, rfl, iteM (by decide) ?_⟩
    refine ⟨_, rfl, ax, xs, rfl, .inl sx, _, rfl, ay, ys, rfl, .inl sy, rfl, _, rfl, iteM (by rw [lx, ly]; simp) ?_⟩
    refine ⟨_, rfl, ay, ys, rfl, .inl sy, _, rfl, by omega, by omega, for_range (lo := 0) (n := (ys.length : Int).toNat) (fun k σ H2 => ∃ v2, σ = [some (.ref ax), some (.ref ay), v2, none] ∧ H2 = H) ⟨none, rfl, rfl⟩ ?_ ?_⟩
    · rintro k σ _ hk ⟨v2, rfl, rfl⟩
      have hk' : k < ys.length := by omega
      have ez : ((0 : Int) + k) = (k : Int) := by omega
      obtain ⟨v, e, e1, e2, e3⟩ := dpAll_get ex (k := k) (by omega)
      obtain ⟨v', e', e4, e5, e6⟩ := dpAll_get ey hk'
      rw [e2] at e5
      cases e5
      have hm := List.mem_of_getElem? e2
      refine ⟨_, rfl, _, rfl, .inl ⟨ax, xs, _, v, rfl, rfl, sx, at_of (j := k) ez e1, ?_⟩⟩
      refine ⟨_, rfl, _, rfl, .inl ⟨ay, ys, _, v', rfl, rfl, sy, at_of (j := k) ez e4, ?_⟩⟩
      refine ⟨rfl, e, v, v', rfl, e3, e6, canMem (by simpa [PyData.canLay0] using hl) hm, ?_, Nat.le_trans (wid_mem hm) (Nat.le_trans (Nat.le_max_right _ _) hw), _, rfl, iteM (by decide) ⟨_, rfl, rfl⟩⟩
      have := depth_mem hm
      have hd : PyData.depthAll ds + 1 < n + 1 := hd
      omega
    · rintro σ _ ⟨v2, rfl, rfl⟩
      exact go
  | tuple ds =>
    cases dx with
    | @tup ax xs _ sx ex =>
    cases dy with
    | @tup ay ys _ sy ey =>
    have tx := sqT_ty sx
    have ty := sqT_ty sy
    have lx := dpAll_len ex
    have ly := dpAll_len ey
    have hwl : ds.length ≤ 1000 := Nat.le_trans (Nat.le_max_left _ _) hw
    refine ⟨_, rfl, _, _, _, _, false, rfl, ClsV.ty _, ty, kit_ty (by decide +kernel), _, rfl, iteM (by decide) ?_⟩
    refine ⟨_, rfl, _, _, _, _, false, rfl, ClsV.ty _, ty, kit_ty (by decide +kernel), _, rfl, iteM (by decide) ?_⟩
    refine ⟨_, rfl, _, _, _, _, false, rfl, ClsV.ty _, ty, kit_ty (by decide +kernel), _, rfl, iteM (by decide) ?_⟩
    refine ⟨_, rfl, rfl, _, rfl, iteM (by simp) ?_⟩
    refine ⟨_, rfl, _, _, _, _, false, rfl, ClsV.ty _, ty, kit_ty (by decide +kernel), _, rfl, iteM (by decide) ?_⟩
    refine ⟨_, rfl, _, _, _, _, true, rfl, ClsV.ty _, ty, kit_ty (by decide +kernel), _, rfl, _, _, _, _, true, rfl, ClsV.ty _, tx, kit_ty (by decide +kernel), rfl, _, rfl, iteM (by decide) ?_⟩
    refine ⟨_, rfl, _, _, _, _, false, rfl, ClsV.ty _, ty, kit_ty (by decide +kernel), _, rfl, _, _, _, _, false, rfl, ClsV.ty _, tx, kit_ty (by decide +kernel), rfl, _, rfl, iteM (by decide) ?_⟩
    refine ⟨_, rfl, ax, xs, rfl, .inr sx, _, rfl, ay, ys, rfl, .inr sy, rfl, _, rfl, iteM (by rw [lx, ly]; simp) ?_⟩
    refine ⟨_, rfl, ay, ys, rfl, .inr sy, _, rfl, by omega, by omega, for_range (lo := 0) (n := (ys.length : Int).toNat) (fun k σ H2 => ∃ v2, σ = [some (.ref ax), some (.ref ay), v2, none] ∧ H2 = H) ⟨none, rfl, rfl⟩ ?_ ?_⟩
    · rintro k σ _ hk ⟨v2, rfl, rfl⟩
      have hk' : k < ys.length := by omega
      have ez : ((0 : Int) + k) = (k : Int) := by omega
      obtain ⟨v, e, e1, e2, e3⟩ := dpAll_get ex (k := k) (by omega)
      obtain ⟨v', e', e4, e5, e6⟩ := dpAll_get ey hk'
      rw [e2] at e5
      cases e5
      have hm := List.mem_of_getElem? e2
      refine ⟨_, rfl, _, rfl, .inr ⟨ax, xs, _, v, rfl, rfl, sx, at_of (j := k) ez e1, ?_⟩⟩
      refine ⟨_, rfl, _, rfl, .inr ⟨ay, ys, _, v', rfl, rfl, sy, at_of (j := k) ez e4, ?_⟩⟩
      refine ⟨rfl, e, v, v', rfl, e3, e6, canMem (by simpa [PyData.canLay0] using hl) hm, ?_, Nat.le_trans (wid_mem hm) (Nat.le_trans (Nat.le_max_right _ _) hw), _, rfl, iteM (by decide) ⟨_, rfl, rfl⟩⟩
      have := depth_mem hm
      have hd : PyData.depthAll ds + 1 < n + 1 := hd
      omega
    · rintro σ _ ⟨v2, rfl, rfl⟩
      exact go
  | dict kvs => cases dx
theorem ok_like (F : Fd K mg "_law_like" s_like) (Bm : Blt mg) : Gf P w K mg base 4 "_law_like" ["_law_found", "_law_due"] (spLike K 4) := by
  exact like_step F Bm (like_step F Bm (like_step F Bm (like_step F Bm (like_zero F))))
end
end Cu

namespace Cu
open PySem PySem.Spec PyProof.Rows L2
/-! sorted(pairs) of (number, letter) of changes, each number once -/
def numL : Letter → Nat
  | .change n _ _ => n
  | .part n _ _ => n
  | .beat n _ => n
def keyL : Letter → Nat
  | .change _ c _ => c.key
  | _ => 0
def isCh : Letter → Bool
  | .change _ _ _ => true
  | _ => false
def pairD (l : Letter) : PyData := .tuple [.int (numL l), l.enc]
def byN (a b : V × Letter) : Bool := decide (numL a.2 ≤ numL b.2)
theorem paired_each {α β : Type} {R : α → β → Prop} : ∀ {as : List α} {bs : List β}, Paired R as bs → PySem.W.EachIs (fun b a => R a b) bs as
  | _, _, .nil => .nil
  | _, _, .cons h t => .cons h (paired_each t)
theorem each_paired {α β : Type} {R : α → β → Prop} : ∀ {as : List α} {bs : List β}, PySem.W.EachIs (fun b a => R a b) bs as → Paired R as bs
  | _, _, .nil => .nil
  | _, _, .cons h t => .cons h (each_paired t)
theorem alike_ch {l l' : Letter} (h : isCh l = true) (h' : isCh l' = true) : PySem.W.alike l.enc l'.enc = true := by
  cases l with
  | part n b rows => cases h
  | beat n lasts => cases h
  | change n c ah =>
    cases l' with
    | part n b rows => cases h'
    | beat n lasts => cases h'
    | change n' c' ah' => simp [Letter.enc, PySem.W.alike, PySem.W.alikeAll]
theorem alike_int (x y : Int) : PySem.W.alike (.int x) (.int y) = true := by simp [PySem.W.alike]
theorem dataLt_int (x y : Int) : PySem.W.dataLt (.int x) (.int y) = decide (x < y) := by
  have := congrFun (congrFun (PySem.W.dataLe_int (fun z : Int => z)) y) x
  rw [PySem.W.dataLe_eq] at this
  have h : (!PySem.W.dataLt (.int x) (.int y)) = decide (y ≤ x) := this
  by_cases hxy : x < y
  · rw [decide_eq_true hxy]
    rw [decide_eq_false (by omega)] at h
    simpa using h
  · rw [decide_eq_false hxy]
    rw [decide_eq_true (by omega)] at h
    simpa using h
theorem lt_pairD {l l' : Letter} (h : isCh l = true) (h' : isCh l' = true) (u : numL l = numL l' → l = l') : PySem.W.dataLt (pairD l) (pairD l') = decide (numL l < numL l') := by
  unfold pairD
  rw [PySem.W.dataLt_pair (alike_int _ _) (alike_ch h h'), dataLt_int]
  by_cases e : numL l = numL l'
  · have := u e
    subst this
    rw [(Gd.letter l).refl, if_pos rfl]
    simp
  · have e1 : PyData.eqv (.int (numL l : Int)) (.int (numL l' : Int)) = false := by
      have : ¬ ((numL l : Int) = numL l') := fun q => e (by omega)
      simp [PyData.eqv, this]
    rw [e1, if_neg (by decide)]
    by_cases q : numL l < numL l'
    · rw [decide_eq_true q, decide_eq_true (by omega)]
    · rw [decide_eq_false q, decide_eq_false (by omega)]
def rSortedNL (K : PySem.W.Frag) : List V → Hp → VK → Prop := fun vs H Q => ∃ (a : Addr) (xs : List V) (ls : List Letter), vs = [.ref a] ∧ SqL K H a xs ∧ DpAll K H xs (ls.map pairD) ∧ (∀ l ∈ ls, isCh l = true) ∧ (∀ l ∈ ls, ∀ l' ∈ ls, numL l = numL l' → l = l') ∧
  ∀ p : Addr, H p = none → Q (.ref p) (upd H p (.lst (((xs.zip ls).mergeSort byN).map Prod.fst)))
theorem dpAll_each {X : Cx} {pins : List (Addr × Obj)} {σ : L2.St} {H : Hp} {s : Shared} (I : Inv X pins σ H s) : ∀ {ls : List Letter} {xs : List V} {us : List Value}, DpAll X.K H xs (ls.map pairD) → Vals xs us →
    PySem.W.EachIs (fun u (b : V × Letter) => RelV b.1 u) us (xs.zip ls) ∧ PySem.W.EachIs (fun u (b : V × Letter) => ∃ as, Reads s.heap u (pairD b.2) as) us (xs.zip ls)
  | [], xs, us, d, r => by
    cases d
    cases r
    exact ⟨.nil, .nil⟩
  | l :: ls, xs, us, d, r => by
    cases d with
    | cons h hs =>
      cases r with
      | cons r1 r2 =>
        obtain ⟨q1, q2⟩ := dpAll_each I hs r2
        exact ⟨.cons r1 q1, .cons (Dp.reads I _ _ _ h r1) q2⟩
theorem dpAll_zip {K : PySem.W.Frag} {H : Hp} : ∀ {ls : List Letter} {xs : List V}, DpAll K H xs (ls.map pairD) → (xs.zip ls).map Prod.snd = ls ∧ xs.length = ls.length
  | [], xs, d => by
    cases d
    exact ⟨rfl, rfl⟩
  | l :: ls, xs, d => by
    cases d with
    | cons h hs =>
      obtain ⟨q1, q2⟩ := dpAll_zip hs
      exact ⟨congrArg (l :: ·) q1, congrArg (· + 1) q2⟩
theorem each_vals : ∀ {out : List Value} {bs : List (V × Letter)}, PySem.W.EachIs (fun u (b : V × Letter) => RelV b.1 u) out bs → Vals (bs.map Prod.fst) out
  | _, _, .nil => .nil
  | _, _, .cons h t => .cons h (each_vals t)
theorem pairD_depth (l : Letter) : (pairD l).depth ≤ 5 := by
  have := (Gd.tuple (n := 4) (ds := [.int (numL l), l.enc]) (.all_cons .int (.all_cons (.letter l) .all_nil))).2
  exact this
theorem cr_sortedNL {X : Cx} (hu : X.A.units + 64 < cLine) : CallR X (.builtin "sorted") (rSortedNL X.K) := by
  intro pins s σ H vs us Q I r h
  obtain ⟨a, xs, ls, rfl, hs, dx, hc, hn, q⟩ := h
  obtain ⟨its, rv, hl, hz⟩ := I.list hs
  rw [Vals.ref1 r]
  obtain ⟨e1, e2⟩ := dpAll_each I dx rv
  obtain ⟨z1, z2⟩ := dpAll_zip dx
  have mem : ∀ b ∈ xs.zip ls, b.2 ∈ ls := fun b hb => by
    rw [← z1]
    exact List.mem_map.mpr ⟨b, hb, rfl⟩
  have hlen : (xs.zip ls).length ≤ sizeLine := by
    rw [List.length_zip, z2, Nat.min_self, ← z2]
    exact hz
  refine PySem.W.sorted_data (enc := fun b : V × Letter => pairD b.2) hl.isList e1 e2 ?_ (.tuples fun b => ⟨_, _, rfl⟩) hlen (fun b hb => ?_) fun out ho he => ?_
  · intro d hd d' hd'
    obtain ⟨b, hb, rfl⟩ := List.mem_map.mp hd
    obtain ⟨b', hb', rfl⟩ := List.mem_map.mp hd'
    have := alike_ch (hc _ (mem b hb)) (hc _ (mem b' hb'))
    simp [pairD, PySem.W.alike, PySem.W.alikeAll, this]
  · have := pairD_depth b.2
    omega
  · have es : (xs.zip ls).mergeSort (PySem.W.dataLe false fun b : V × Letter => pairD b.2) = (xs.zip ls).mergeSort byN := PySem.W.sort_congr fun b hb b' hb' => by
      show (!PySem.W.dataLt (pairD b'.2) (pairD b.2)) = byN b b'
      rw [lt_pairD (hc _ (mem b' hb')) (hc _ (mem b hb)) (hn _ (mem b' hb') _ (mem b hb))]
      unfold byN
      by_cases q : numL b'.2 < numL b.2
      · rw [decide_eq_true q, decide_eq_false (by omega)]
        rfl
      · rw [decide_eq_false q, decide_eq_true (by omega)]
        rfl
    rw [es] at he
    obtain ⟨ep, he'⟩ := PyProof.Rows.sortedAll_at s.heap its out.toArray
    have hl2 : (((xs.zip ls).mergeSort byN).map Prod.fst).length ≤ sizeLine := by
      rw [List.length_map, List.length_mergeSort]
      exact hlen
    exact ⟨.ref _, upd H (s.heap.objs.size + 1) (.lst (((xs.zip ls).mergeSort byN).map Prod.fst)), I.laid (t' := s.toks) (fun _ _ => PyProof.Rows.sortedAll_old) (Nat.le_succ _) ⟨hl2, out, ep, each_vals he, he'⟩, rfl, q _ (I.hok.fresh (Nat.le_succ _))⟩
end Cu

namespace Cu
open PySem PySem.Spec PyProof.Rows L2
/-! an own hearer: a dict of three lists and the letters put aside -/
structure OA where
  r : Addr
  l1 : Addr
  l2 : Addr
  l3 : Addr
def wv (h : HK) : V := if h.upto < 0 then .non else .int h.worth
def rec3 (O : OA) (e : Addr) : List (Key × V) := [(Sum.inr "worth", .ref O.l1), (Sum.inr "since", .ref O.l2), (Sum.inr "upto", .ref O.l3), (Sum.inr "aside", .ref e)]
def oObj (O : OA) (e : Addr) (ws : List V) (ss us : List Int) : Lg := [(O.r, HO.dK (rec3 O e)), (O.l1, .lst ws), (O.l2, .lst (ss.map V.int)), (O.l3, .lst (us.map V.int))]
structure O3r (K : PySem.W.Frag) (O : OA) (e : Addr) (ws : List V) (ss us : List Int) (as : List Letter) (H : Hp) (c : Lg) : Prop where
  eq : c = oObj O e ws ss us
  as_ : ∃ xs, FzL K H e xs ∧ RpL K H (as.map Letter.enc) xs
theorem rec3_put (O : OA) (e e' : Addr) : putK (rec3 O e) (Sum.inr "aside") (.ref e') = rec3 O e' := by rfl
section
variable {K : PySem.W.Frag} {O : OA} {e e' : Addr} {ws : List V} {ss us : List Int} {as as' : List Letter} {H H' : Hp} {c : Lg}
theorem O3r.mono (o : O3r K O e ws ss us as H c) (m : Mono H H') : O3r K O e ws ss us as H' c :=
  ⟨o.eq, let ⟨xs, f, r⟩ := o.as_; ⟨xs, f.mono m, r.mono m⟩⟩
theorem O3r.atr (o : O3r K O e ws ss us as H c) (h : Has H c) : H O.r = some (.dK (rec3 O e)) := by
  rw [o.eq] at h
  exact h.head
theorem O3r.at1 (o : O3r K O e ws ss us as H c) (h : Has H c) : H O.l1 = some (.lst ws) := by
  rw [o.eq] at h
  exact h.tail.head
theorem O3r.at2 (o : O3r K O e ws ss us as H c) (h : Has H c) : H O.l2 = some (.lst (ss.map V.int)) := by
  rw [o.eq] at h
  exact h.tail.tail.head
theorem O3r.at3 (o : O3r K O e ws ss us as H c) (h : Has H c) : H O.l3 = some (.lst (us.map V.int)) := by
  rw [o.eq] at h
  exact h.tail.tail.tail.head
theorem O3r.gw (o : O3r K O e ws ss us as H c) (h : Has H c) : DGet H O.r (.str "worth") (some (.ref O.l1)) := DGet.k (k := Sum.inr "worth") (o.atr h)
theorem O3r.gs (o : O3r K O e ws ss us as H c) (h : Has H c) : DGet H O.r (.str "since") (some (.ref O.l2)) := DGet.k (k := Sum.inr "since") (o.atr h)
theorem O3r.gu (o : O3r K O e ws ss us as H c) (h : Has H c) : DGet H O.r (.str "upto") (some (.ref O.l3)) := DGet.k (k := Sum.inr "upto") (o.atr h)
theorem O3r.ga (o : O3r K O e ws ss us as H c) (h : Has H c) : DGet H O.r (.str "aside") (some (.ref e)) := DGet.k (k := Sum.inr "aside") (o.atr h)
theorem O3r.put1 (o : O3r K O e ws ss us as H c) (h : Has H c) (ws' : List V) : ∃ c', O3r K O e ws' ss us as (upd H O.l1 (.lst ws')) c' ∧ Tr H c (upd H O.l1 (.lst ws')) c' := by
  obtain ⟨rfl, xs, f, r⟩ := o
  have t := Tr.mid (pre := [(O.r, HO.dK (rec3 O e))]) (o' := .lst ws') h nl
  exact ⟨oObj O e ws' ss us, ⟨rfl, xs, f.mono t.mono, r.mono t.mono⟩, t⟩
theorem O3r.put2 (o : O3r K O e ws ss us as H c) (h : Has H c) (ss' : List Int) : ∃ c', O3r K O e ws ss' us as (upd H O.l2 (.lst (ss'.map V.int))) c' ∧ Tr H c (upd H O.l2 (.lst (ss'.map V.int))) c' := by
  obtain ⟨rfl, xs, f, r⟩ := o
  have t := Tr.mid (pre := [(O.r, HO.dK (rec3 O e)), (O.l1, .lst ws)]) (o' := .lst (ss'.map V.int)) h nl
  exact ⟨oObj O e ws ss' us, ⟨rfl, xs, f.mono t.mono, r.mono t.mono⟩, t⟩
theorem O3r.put3 (o : O3r K O e ws ss us as H c) (h : Has H c) (us' : List Int) : ∃ c', O3r K O e ws ss us' as (upd H O.l3 (.lst (us'.map V.int))) c' ∧ Tr H c (upd H O.l3 (.lst (us'.map V.int))) c' := by
  obtain ⟨rfl, xs, f, r⟩ := o
  have t := Tr.mid (pre := [(O.r, HO.dK (rec3 O e)), (O.l1, .lst ws), (O.l2, .lst (ss.map V.int))]) (o' := .lst (us'.map V.int)) h nl
  exact ⟨oObj O e ws ss us', ⟨rfl, xs, f.mono t.mono, r.mono t.mono⟩, t⟩
theorem O3r.puta (o : O3r K O e ws ss us as H c) (h : Has H c) {xs : List V} (f : FzL K H e' xs) (r : RpL K H (as'.map Letter.enc) xs) : ∃ c', O3r K O e' ws ss us as' (upd H O.r (.dK (rec3 O e'))) c' ∧ Tr H c (upd H O.r (.dK (rec3 O e'))) c' := by
  obtain ⟨rfl, _⟩ := o
  have t := Tr.mid (pre := []) (o' := .dK (rec3 O e')) h ndk
  exact ⟨oObj O e' ws ss us, ⟨rfl, xs, f.mono t.mono, r.mono t.mono⟩, t⟩
end
/-- the own hearer stands as the keys hs -/
structure O3 (K : PySem.W.Frag) (O : OA) (hs : List HK) (as : List Letter) (H : Hp) (c : Lg) : Prop where
  ex : ∃ e, O3r K O e (hs.map wv) (hs.map fun h => (h.since : Int)) (hs.map fun h => h.upto) as H c
theorem O3.mono {K : PySem.W.Frag} {O : OA} {hs : List HK} {as : List Letter} {H H' : Hp} {c : Lg} (o : O3 K O hs as H c) (m : Mono H H') : O3 K O hs as H' c := let ⟨e, h⟩ := o.ex; ⟨e, h.mono m⟩
/-- a change of the story -/
def InS (cs : List Ch) (l : Letter) : Prop := ∃ m c, cs[m]? = some c ∧ l = .change (m + 1) c (lof (cs.take m) c.key)
theorem InS.ch {cs : List Ch} {l : Letter} (h : InS cs l) : isCh l = true := by
  obtain ⟨m, c, _, rfl⟩ := h
  rfl
theorem InS.same {cs : List Ch} {l l' : Letter} (h : InS cs l) (h' : InS cs l') (e : numL l = numL l') : l = l' := by
  obtain ⟨m, c, e1, rfl⟩ := h
  obtain ⟨m', c', e2, rfl⟩ := h'
  have : m = m' := by
    have e : m + 1 = m' + 1 := e
    omega
  subst this
  rw [e1] at e2
  cases e2
  rfl
theorem InS.bd {cs : List Ch} {l : Letter} (h : InS cs l) : 0 < numL l ∧ numL l ≤ cs.length := by
  obtain ⟨m, c, e1, rfl⟩ := h
  have := (List.getElem?_eq_some_iff.mp e1).1
  show 0 < m + 1 ∧ m + 1 ≤ cs.length
  omega
theorem InS.isN {cs : List Ch} {l : Letter} (h : InS cs l) : IsN cs (keyL l) (numL l) := by
  obtain ⟨m, c, e1, rfl⟩ := h
  exact ⟨m, c, rfl, e1, rfl⟩
theorem InS.eqv {cs : List Ch} {l l' : Letter} (h : InS cs l) (h' : InS cs l') : PyData.eqv l.enc l'.enc = decide (numL l = numL l') := by
  by_cases e : numL l = numL l'
  · have := h.same h' e
    subst this
    rw [(Gd.letter l).refl, decide_eq_true rfl]
  · rw [decide_eq_false e]
    obtain ⟨m, c, e1, rfl⟩ := h
    obtain ⟨m', c', e2, rfl⟩ := h'
    have e : ¬ ((m : Int) + 1 = m' + 1) := fun q => e (by show m + 1 = m' + 1; omega)
    simp [Letter.enc, PyData.eqv, PyData.eqvAll, e]
/-- the letters put aside are those of the keys -/
structure AsR (cs : List Ch) (hs : List HK) (as : List Letter) : Prop where
  in_ : ∀ l ∈ as, InS cs l ∧ keyL l < hs.length
  nd : (as.map fun l => (numL l : Int)).Nodup
  at_ : ∀ (k : Nat) (h : HK), hs[k]? = some h → (as.filter fun l => decide (keyL l = k)) = h.aside.map (asL k)
theorem AsR.few {cs : List Ch} {hs : List HK} {as : List Letter} (a : AsR cs hs as) : as.length ≤ cs.length := by
  have := nodup_len (b := cs.length) a.nd fun n hn => by
    obtain ⟨l, hl, rfl⟩ := List.mem_map.mp hn
    have := (a.in_ l hl).1.bd
    omega
  rwa [List.length_map] at this
theorem AsR.ini (cs : List Ch) (nk : Nat) : AsR cs (List.replicate nk HK.ini) [] := ⟨fun _ h => (nomatch h), List.nodup_nil, fun k h e => by
  rw [List.getElem?_replicate] at e
  split at e
  · cases e
    rfl
  · cases e⟩
theorem numL_as (k : Nat) (as : List As) : ((as.map (asL k)).map fun l => (numL l : Int)) = asN as := by
  rw [List.map_map]
  rfl
theorem wv_set {hs : List HK} {k : Nat} {h g : HK} (e : hs[k]? = some h) (hu : 0 ≤ g.upto) : (hs.map wv).set k (.int g.worth) = (hs.set k g).map wv := by
  rw [List.map_set, wv, if_neg (by omega)]
theorem ss_set {hs : List HK} {k : Nat} {g : HK} : (hs.map fun h => (h.since : Int)).set k g.since = (hs.set k g).map fun h => (h.since : Int) := by rw [List.map_set]
theorem us_set {hs : List HK} {k : Nat} {g : HK} : (hs.map fun h => h.upto).set k g.upto = (hs.set k g).map fun h => h.upto := by rw [List.map_set]
/-- of all put aside, the numbers are what is held -/
theorem AsR.held {nk : Nat} {cs : List Ch} {hs : List HK} {as : List Letter} (a : AsR cs hs as) (i : AllI nk cs hs) : srt (as.map fun l => (numL l : Int)) = heldM hs := by
  unfold heldM
  refine srt_eq ((srt_perm _).trans ?_) ?_
  · refine (List.perm_ext_iff_of_nodup a.nd ?_).mpr fun n => ?_
    · refine flat_nodup (fun x hx => ?_) fun p q x y hp hq hpq n hn hn' => ?_
      · obtain ⟨h, hh, rfl⟩ := List.mem_map.mp hx
        obtain ⟨k, ek⟩ := List.getElem?_of_mem hh
        exact (i.2 k h ek).nd
      · rw [List.getElem?_map] at hp hq
        cases e1 : hs[p]? with
        | none =>
          rw [e1] at hp
          cases hp
        | some h1 =>
          cases e2 : hs[q]? with
          | none =>
            rw [e2] at hq
            cases hq
          | some h2 =>
            rw [e1] at hp
            rw [e2] at hq
            cases hp
            cases hq
            obtain ⟨a1, m1, rfl⟩ := List.mem_map.mp hn
            obtain ⟨a2, m2, ea⟩ := List.mem_map.mp hn'
            have q1 := ((i.2 p h1 e1).as a1 m1).isN
            have q2 := ((i.2 q h2 e2).as a2 m2).isN
            rw [ea] at q2
            have := q1.key q2
            omega
    · constructor
      · intro hn
        obtain ⟨l, hl, rfl⟩ := List.mem_map.mp hn
        obtain ⟨h1, h2⟩ := a.in_ l hl
        obtain ⟨h, eh⟩ : ∃ h, hs[keyL l]? = some h := ⟨hs[keyL l], List.getElem?_eq_getElem h2⟩
        refine List.mem_flatten.mpr ⟨asN h.aside, List.mem_map.mpr ⟨h, List.mem_of_getElem? eh, rfl⟩, ?_⟩
        rw [← numL_as (keyL l), ← a.at_ _ h eh]
        exact List.mem_map.mpr ⟨l, List.mem_filter.mpr ⟨hl, by simp⟩, rfl⟩
      · intro hn
        obtain ⟨x, hx, hnx⟩ := List.mem_flatten.mp hn
        obtain ⟨h, hh, rfl⟩ := List.mem_map.mp hx
        obtain ⟨k, ek⟩ := List.getElem?_of_mem hh
        rw [← numL_as k, ← a.at_ k h ek] at hnx
        obtain ⟨l, hl, rfl⟩ := List.mem_map.mp hnx
        exact List.mem_map.mpr ⟨l, (List.mem_filter.mp hl).1, rfl⟩
  · have := List.pairwise_mergeSort (le := fun a b : Int => decide (a ≤ b)) (fun a b c h1 h2 => by simp at h1 h2 ⊢; omega) (fun a b => by simp; omega) (as.map fun l => (numL l : Int))
    exact this.imp fun h => by simpa using h
end Cu

namespace Cu
open PySem PySem.Spec PyProof.Rows L2
abbrev s_do : Stmt := (top 20)
theorem sc_do : FnScope ["_law_h", "_law_letter_here", "_law_kind", "_law_number", "_law_key", "_law_word", "_law_worth_here", "_law_ahead"] ["_law_h", "_law_letter_here"] (defScope s_do) := ⟨rfl, rfl, rfl, by decide +kernel, rfl, by decide +kernel, by decide +kernel⟩

theorem AsR.congr {cs : List Ch} {hs hs' : List HK} {as : List Letter} (a : AsR cs hs as) (hl : hs'.length = hs.length) (q : ∀ (k : Nat) (g : HK), hs'[k]? = some g → ∃ h, hs[k]? = some h ∧ g.aside = h.aside) : AsR cs hs' as :=
  ⟨fun l hl' => ⟨(a.in_ l hl').1, by rw [hl]; exact (a.in_ l hl').2⟩, a.nd, fun k g e => by
    obtain ⟨h, e1, e2⟩ := q k g e
    rw [e2]
    exact a.at_ k h e1⟩
theorem AsR.set {cs : List Ch} {hs : List HK} {as : List Letter} {k : Nat} {h g : HK} (a : AsR cs hs as) (e : hs[k]? = some h) (q : g.aside = h.aside) : AsR cs (hs.set k g) as := a.congr (by rw [List.length_set]) fun j g' e' => by
  by_cases hj : k = j
  · subst hj
    rw [List.getElem?_set_self (List.getElem?_eq_some_iff.mp e).1] at e'
    cases e'
    exact ⟨h, e, q⟩
  · rw [List.getElem?_set_ne hj] at e'
    exact ⟨g', e', rfl⟩
/-- a number is taken out -/
theorem AsR.drop {cs : List Ch} {hs : List HK} {as : List Letter} {k n : Nat} {h : HK} (a : AsR cs hs as) (e : hs[k]? = some h) (hn : IsN cs k n) : AsR cs (hs.set k { h with aside := dropA h.aside n }) (as.filter fun l => decide (numL l ≠ n)) := by
  refine ⟨fun l hl => ?_, ?_, fun j g eg => ?_⟩
  · obtain ⟨h1, h2⟩ := a.in_ l (List.mem_filter.mp hl).1
    exact ⟨h1, by rw [List.length_set]; exact h2⟩
  · exact a.nd.sublist ((List.filter_sublist (p := _)).map _)
  · by_cases hj : k = j
    · subst hj
      rw [List.getElem?_set_self (List.getElem?_eq_some_iff.mp e).1] at eg
      cases eg
      show _ = (dropA h.aside n).map (asL k)
      rw [List.filter_filter]
      have e1 : (as.filter fun l => decide (keyL l = k) && decide (numL l ≠ n)) = (as.filter fun l => decide (keyL l = k)).filter fun l => decide (numL l ≠ n) := by
        rw [List.filter_filter]
        congr 1
        funext l
        rw [Bool.and_comm]
      rw [e1, a.at_ k h e, List.filter_map]
      unfold dropA
      congr 1
      apply List.filter_congr
      intro x _
      show decide (numL (asL k x) ≠ n) = decide ((x.n : Int) ≠ n)
      have : numL (asL k x) = x.n := rfl
      rw [this]
      by_cases q : x.n = n
      · rw [decide_eq_false (by simpa using q), decide_eq_false (by simp [q])]
      · rw [decide_eq_true q, decide_eq_true (by omega)]
    · rw [List.getElem?_set_ne hj] at eg
      rw [← a.at_ j g eg, List.filter_filter]
      apply List.filter_congr
      intro l hl
      by_cases hkl : keyL l = j
      · have h1 := (a.in_ l hl).1.isN
        rw [hkl] at h1
        have : numL l ≠ n := fun q => by
          rw [q] at h1
          exact hj (hn.key h1)
        rw [decide_eq_true hkl, decide_eq_true this]
        rfl
      · rw [decide_eq_false hkl]
        rfl
/-- a letter is put aside -/
theorem AsR.put {cs : List Ch} {hs : List HK} {as : List Letter} {h : HK} {n ahead : Nat} {c : Ch} (a : AsR cs hs as) (e : hs[c.key]? = some h) (hn : InS cs (.change n c ahead)) (hs_ : c.set = false) :
    AsR cs (hs.set c.key { h with aside := putA h.aside ⟨n, c.worth, ahead⟩ }) (if (as.any fun l => decide (numL l = n)) = true then as else as ++ [.change n c ahead]) := by
  have hk := (List.getElem?_eq_some_iff.mp e).1
  have eL : asL c.key ⟨n, c.worth, ahead⟩ = .change n c ahead := by
    cases c
    cases hs_
    rfl
  have hmem : (as.any fun l => decide (numL l = n)) = (h.aside.any fun x => decide (x.n = n)) := by
    rw [Bool.eq_iff_iff, List.any_eq_true, List.any_eq_true]
    constructor
    · rintro ⟨l, hl, q⟩
      have q : numL l = n := of_decide_eq_true q
      have e1 := (a.in_ l hl).1.same hn q
      have : l ∈ as.filter fun l => decide (keyL l = c.key) := List.mem_filter.mpr ⟨hl, by rw [e1]; exact decide_eq_true rfl⟩
      rw [a.at_ c.key h e] at this
      obtain ⟨x, hx, e2⟩ := List.mem_map.mp this
      refine ⟨x, hx, decide_eq_true ?_⟩
      have : numL (asL c.key x) = x.n := rfl
      rw [e2] at this
      omega
    · rintro ⟨x, hx, q⟩
      have q : x.n = n := of_decide_eq_true q
      have : asL c.key x ∈ as.filter fun l => decide (keyL l = c.key) := by
        rw [a.at_ c.key h e]
        exact List.mem_map.mpr ⟨x, hx, rfl⟩
      exact ⟨_, (List.mem_filter.mp this).1, decide_eq_true q⟩
  by_cases hin : (as.any fun l => decide (numL l = n)) = true
  · rw [if_pos hin]
    rw [hmem] at hin
    have same : putA h.aside ⟨n, c.worth, ahead⟩ = h.aside := by
      unfold putA
      rw [if_pos hin]
      have : h.aside.map (fun x => if x.n = n then (⟨n, c.worth, ahead⟩ : As) else x) = h.aside.map id := by
        apply List.map_congr_left
        intro x hx
        by_cases q : x.n = n
        · rw [if_pos q]
          have hl : asL c.key x ∈ as.filter fun l => decide (keyL l = c.key) := by
            rw [a.at_ c.key h e]
            exact List.mem_map.mpr ⟨x, hx, rfl⟩
          have e1 := (a.in_ _ (List.mem_filter.mp hl).1).1.same hn q
          rw [← eL] at e1
          have e2 : Letter.change x.n ⟨c.key, false, x.worth⟩ x.ahead = Letter.change n ⟨c.key, false, c.worth⟩ ahead := e1
          cases x
          cases e2
          rfl
        · rw [if_neg q]
          rfl
      exact this.trans (List.map_id _)
    rw [same]
    exact a.set e rfl
  · rw [if_neg hin]
    have hin2 := hin
    rw [hmem] at hin2
    have app : putA h.aside ⟨n, c.worth, ahead⟩ = h.aside ++ [⟨n, c.worth, ahead⟩] := by
      unfold putA
      rw [if_neg hin2]
    rw [app]
    refine ⟨fun l hl => ?_, ?_, fun j g eg => ?_⟩
    · rw [List.length_set]
      rcases List.mem_append.mp hl with hl | hl
      · exact a.in_ l hl
      · rw [List.mem_singleton.mp hl]
        exact ⟨hn, hk⟩
    · rw [List.map_append]
      refine List.nodup_append.mpr ⟨a.nd, by simp, fun x hx y hy q => hin ?_⟩
      obtain ⟨l, hl, rfl⟩ := List.mem_map.mp hx
      have hy : y = (n : Int) := by simpa [numL] using hy
      rw [List.any_eq_true]
      exact ⟨l, hl, decide_eq_true (by omega)⟩
    · by_cases hj : c.key = j
      · subst hj
        rw [List.getElem?_set_self hk] at eg
        cases eg
        show _ = (h.aside ++ [(⟨n, c.worth, ahead⟩ : As)]).map (asL c.key)
        rw [List.filter_append, a.at_ _ h e, List.map_append]
        congr 1
        show List.filter _ [Letter.change n c ahead] = [asL c.key ⟨n, c.worth, ahead⟩]
        rw [eL]
        exact List.filter_cons_of_pos (l := []) (by exact decide_eq_true rfl)
      · rw [List.getElem?_set_ne hj] at eg
        rw [← a.at_ j g eg, List.filter_append]
        have : List.filter (fun l => decide (keyL l = j)) [Letter.change n c ahead] = [] := List.filter_cons_of_neg (l := []) (by show ¬ decide (c.key = j) = true; simpa using hj)
        rw [this, List.append_nil]
def spO3do (K : PySem.W.Frag) : Sp := fun vs H Q _ => vs.length = 2 ∧ ∃ (O : OA) (hs : List HK) (as : List Letter) (c : Lg) (v : V) (n ahead : Nat) (ch : Ch) (h : HK), vs = [.ref O.r, v] ∧ O3 K O hs as H c ∧ Has H c ∧ Rp K H (Letter.enc (.change n ch ahead)) v ∧ hs[ch.key]? = some h ∧ (ch.set = false → 0 ≤ h.upto) ∧
  ∀ (c' : Lg) (H' : Hp), O3 K O (hs.set ch.key (h.done n ch.set ch.worth)) as H' c' → Tr H c H' c' → Q .non H'
section
variable {P : Program} {w : World} {K : PySem.W.Frag} {mg : Str → Option Value} {base : Heap}
theorem ok_odo (F : Fd K mg "_law_do" s_do) (Bm : Blt mg) : Gf P w K mg base 1 "_law_do" ["_law_h", "_law_letter_here"] (spO3do K) := by
  refine F.ok sc_do (fun _ _ _ _ _ _ us hl => match us, hl with | [_, _], _ => rfl) len_of fun qual f cdv A0 outer s H vs Q E hr h => ?_
  obtain ⟨_, O, hs, as, c, v, n, ahead, ch, h, rfl, o, hc, rv, eh, hu, go⟩ := h
  refine ⟨_, (pss_cons (ps_asg (pv 1) (pg_tup rfl (pgs_cons (pg_name (i := 2) sc_do.nd rfl (Or.inl rfl)) (pgs_cons (pg_name (i := 3) sc_do.nd rfl (Or.inl rfl)) (pgs_cons (pg_name (i := 4) sc_do.nd rfl (Or.inl rfl)) (pgs_cons (pg_name (i := 5) sc_do.nd rfl (Or.inl rfl)) (pgs_cons (pg_name (i := 6) sc_do.nd rfl (Or.inl rfl)) (pgs_cons (pg_name (i := 7) sc_do.nd rfl (Or.inl rfl)) pgs_nil))))))))
      (pss_cons (ps_mid (ps_asg (pe_op op_add (pv 6) (pe_ifExp (pt_cmpR op_eq (pv 5) pe_str (nomark _)) (pe_ix ix_list (pe_dget (hu_of hr) (pv 0) pe_str (fun _ _ => rfl)) (pv 4) (fun _ _ => rfl)) pe_int)) (pg_sub (pe_dget (hu_of hr) (pv 0) pe_str (fun _ _ => rfl)) (pv 4) set_list)))
      (pss_cons (ps_asg (pv 3) (pg_sub (pe_dget (hu_of hr) (pv 0) pe_str (fun _ _ => rfl)) (pv 4) set_list))
      (pss_one (ps_asg (pv 3) (pg_sub (pe_dget (hu_of hr) (pv 0) pe_str (fun _ _ => rfl)) (pv 4) set_list)))))), ?_⟩
  obtain ⟨a, rfl, ha⟩ := rv.chg_inv
  obtain ⟨e, o⟩ := o.ex
  have hk := (List.getElem?_eq_some_iff.mp eh).1
  refine ⟨_, rfl, a, _, rfl, SqT.of ha, rfl, _, _, rfl, _, _, rfl, _, _, rfl, _, _, rfl, _, _, rfl, _, _, rfl, rfl, ?_⟩
  refine rd_mid (fun σ' H' => σ' = [some (.ref O.r), some (.ref a), some (.str "change"), some (.int n), some (.int ch.key), some (.str (wd ch.set)), some (.int ch.worth), some (.int ahead)] ∧ ∃ c1, O3r K O e ((hs.map wv).set ch.key (.int (h.done n ch.set ch.worth).worth)) (hs.map fun h => (h.since : Int)) (hs.map fun h => h.upto) as H' c1 ∧ Tr H c H' c1) ?_ ?_
  · have fin : ∀ z : Int, z = (h.done n ch.set ch.worth).worth → ∃ c1, O3r K O e ((hs.map wv).set ch.key (.int (h.done n ch.set ch.worth).worth)) (hs.map fun h => (h.since : Int)) (hs.map fun h => h.upto) as (upd H O.l1 (.lst ((hs.map wv).set ch.key (.int z)))) c1 ∧ Tr H c (upd H O.l1 (.lst ((hs.map wv).set ch.key (.int z)))) c1 := fun z ez => by
      subst ez
      exact o.put1 hc _
    have ix : ixN (hs.map wv).length (ch.key : Int) = some ch.key := ixN_of rfl (by rw [List.length_map]; exact hk)
    cases hset : ch.set with
    | true =>
      rw [hset] at fin
      exact ⟨_, rfl, _, rfl, rfl, _, rfl, iteM (by decide +kernel) ⟨_, _, rfl, rfl, _, rfl, O.r, _, rfl, o.gw hc, _, rfl, _, _, _, _, rfl, rfl, o.at1 hc, ix, rfl, fin _ (by show ch.worth + 0 = ch.worth; omega)⟩⟩
    | false =>
      rw [hset] at fin
      have aw : atI (hs.map wv) (ch.key : Int) = some (V.int h.worth) := at_of (j := ch.key) rfl (by rw [List.getElem?_map, eh]; show some (wv h) = _; rw [wv, if_neg (by have := hu hset; omega)])
      exact ⟨_, rfl, _, rfl, rfl, _, rfl, iteP (by decide +kernel) ⟨_, rfl, O.r, _, rfl, o.gw hc, _, rfl, O.l1, _, _, _, rfl, rfl, SqL.of (o.at1 hc), aw, _, _, rfl, rfl, _, rfl, O.r, _, rfl, o.gw hc, _, rfl, _, _, _, _, rfl, rfl, o.at1 hc, ix, rfl, fin _ (by show ch.worth + h.worth = h.worth + ch.worth; omega)⟩⟩
  rintro _ H1 ⟨rfl, c1, o1, t1⟩
  have hc1 := t1.now hc
  have ix2 : ixN ((hs.map fun h => (h.since : Int)).map V.int).length (ch.key : Int) = some ch.key := ixN_of rfl (by rw [List.length_map, List.length_map]; exact hk)
  have ix3 : ixN ((hs.map fun h => h.upto).map V.int).length (ch.key : Int) = some ch.key := ixN_of rfl (by rw [List.length_map, List.length_map]; exact hk)
  refine ⟨_, rfl, _, rfl, O.r, _, rfl, o1.gs hc1, _, rfl, _, _, _, _, rfl, rfl, o1.at2 hc1, ix2, ?_⟩
  rw [← List.map_set]
  obtain ⟨c2, o2, t2⟩ := o1.put2 hc1 ((hs.map fun h => (h.since : Int)).set ch.key (n : Int))
  have hc2 := t2.now hc1
  refine ⟨_, rfl, _, rfl, O.r, _, rfl, o2.gu hc2, _, rfl, _, _, _, _, rfl, rfl, o2.at3 hc2, ix3, ?_⟩
  rw [← List.map_set]
  obtain ⟨c3, o3, t3⟩ := o2.put3 hc2 ((hs.map fun h => h.upto).set ch.key (n : Int))
  refine go c3 _ ⟨e, ?_⟩ ((t1.trans t2).trans t3)
  have w1 := wv_set (g := h.done n ch.set ch.worth) eh (by show (0 : Int) ≤ n; omega)
  have w2 := ss_set (hs := hs) (k := ch.key) (g := h.done n ch.set ch.worth)
  have w3 := us_set (hs := hs) (k := ch.key) (g := h.done n ch.set ch.worth)
  rw [← w1, ← w2, ← w3]
  exact o3
end
end Cu

namespace Cu
open PySem PySem.Spec PyProof.Rows L2
abbrev s_freed : Stmt := (top 19)
theorem sc_freed : FnScope ["_law_h", "_law_key", "_law_found", "_law_number", "_law_letter_here", "_law_one"] ["_law_h", "_law_key"] (defScope s_freed) := ⟨rfl, rfl, rfl, by decide +kernel, rfl, by decide +kernel, by decide +kernel⟩

def spO3freed (K : PySem.W.Frag) : Sp := fun vs H Q _ => vs.length = 2 ∧ ∃ (O : OA) (hs : List HK) (as : List Letter) (c : Lg) (cs : List Ch) (k : Nat) (h : HK), vs = [.ref O.r, .int k] ∧ O3 K O hs as H c ∧ Has H c ∧ AsR cs hs as ∧ cs.length ≤ 100 ∧ hs[k]? = some h ∧
  ∀ (p : Addr) (as' : List Letter) (c' : Lg) (H' : Hp), O3 K O (hs.set k h.free.1) as' H' c' → AsR cs (hs.set k h.free.1) as' → Tr H c H' ((p, .lst (h.free.2.map V.int)) :: c') → Q (.ref p) H'
theorem RpL.pairs {K : PySem.W.Frag} {H : Hp} : ∀ {ls : List Letter} {zs : List V}, RpL K H (ls.map pairD) zs → ∀ b ∈ zs.zip ls, b.2 ∈ ls ∧ Rp K H (pairD b.2) b.1
  | [], zs, r, b, hb => by
    have := r.nil_inv
    subst this
    cases hb
  | l :: ls, zs, r, b, hb => by
    obtain ⟨v, vs, rfl, h1, h2⟩ := RpL.cons_inv r
    rcases List.mem_cons.mp hb with rfl | hb
    · exact ⟨List.mem_cons_self, h1⟩
    · obtain ⟨q1, q2⟩ := RpL.pairs h2 b hb
      exact ⟨List.mem_cons_of_mem _ q1, q2⟩
theorem pairs_srt {ls : List Letter} {zs : List V} (hl : zs.length = ls.length) : ((zs.zip ls).mergeSort byN).map (fun b => (numL b.2 : Int)) = srt (ls.map fun l => (numL l : Int)) := by
  refine srt_eq ?_ ?_
  · refine ((List.mergeSort_perm _ _).map _).trans ?_
    have : (zs.zip ls).map (fun b => (numL b.2 : Int)) = ls.map fun l => (numL l : Int) := by
      have e : (zs.zip ls).map Prod.snd = ls := List.map_snd_zip (by omega)
      conv => rhs; rw [← e, List.map_map]
      rfl
    rw [this]
  · have := List.pairwise_mergeSort (le := byN) (fun a b c h1 h2 => by simp [byN] at h1 h2 ⊢; omega) (fun a b => by simp [byN]; omega) (zs.zip ls)
    exact List.pairwise_map.mpr (this.imp fun {a b} h => by
      have : numL a.2 ≤ numL b.2 := of_decide_eq_true h
      omega)
section
variable {P : Program} {w : World} {K : PySem.W.Frag} {mg : Str → Option Value} {base : Heap}
theorem ok_ofreed (F : Fd K mg "_law_freed" s_freed) (Bm : Blt mg) (g_do : Gf P w K mg base 1 "_law_do" ["_law_h", "_law_letter_here"] (spO3do K)) : Gf P w K mg base 2 "_law_freed" ["_law_h", "_law_key"] (spO3freed K) := by
  refine F.ok sc_freed (fun _ _ _ _ _ _ us hl => match us, hl with | [_, _], _ => rfl) len_of fun qual f cdv A0 outer s H vs Q E hr h => ?_
  obtain ⟨_, O, hs, as, c, cs, k, h, rfl, o, hc, ar, hcl, eh, go⟩ := h
  refine ⟨_, (pss_cons (ps_set (i := 2) sc_freed.nd rfl (Or.inl rfl) (pe_lst pa_nil))
      (pss_cons (ps_for PassesOwn.never rfl (pi_list (pe_callB (cr_sortedNL hr.units) rfl Bm.sorted (by decide +kernel) (pa_cons (pe_lc (own := [("_law_letter_here", 4)]) (g := (gName 4)) rfl sc_freed.nd (pi_list (pe_dget (hu_of hr) (pv 0) pe_str (fun _ _ => rfl))) (blkOk_by (N := ["_law_h", "_law_key", "_law_found", "_law_number", "_law_letter_here", "_law_one"]) (sc := defScope s_freed) (by decide +kernel)) (fun _ _ _ _ _ => (pg_name (i := 4) sc_freed.nd rfl (Or.inl rfl))) (fun _ _ _ _ _ => (pts_one (pt_cmpR op_eq (pe_ix (ix_tupK K rfl) (pv 4) pe_int (fun _ _ => rfl)) (pv 1) (nomark _)))) (fun _ _ _ _ _ => (pe_tup (pa_cons (pe_ix (ix_tupK K rfl) (pv 4) pe_int (fun _ _ => rfl)) (pa_cons (pv 4) pa_nil))))) pa_nil))) (pg_tup rfl (pgs_cons (pg_name (i := 3) sc_freed.nd rfl (Or.inl rfl)) (pgs_cons (pg_name (i := 4) sc_freed.nd rfl (Or.inr rfl)) pgs_nil)))
        (pss_one (ps_if (PW.pt (pw_or (pt_cmpR op_le (pe_ix ix_tup (pv 4) pe_int (fun _ _ => rfl)) (pe_ix ix_list (pe_dget (hu_of hr) (pv 0) pe_str (fun _ _ => rfl)) (pv 1) (fun _ _ => rfl)) (nomark _)) (pw_or1 (pt_cmpR op_le (pe_ix ix_tup (pv 4) pe_int (fun _ _ => rfl)) (pe_ix ix_list (pe_dget (hu_of hr) (pv 0) pe_str (fun _ _ => rfl)) (pv 1) (fun _ _ => rfl)) (nomark _)))))
          (pss_cons (ps_dput (hu_of hr) (pv 0) pe_str (pe_fz (pe_lc (own := [("_law_one", 5)]) (g := (gName 5)) rfl sc_freed.nd (pi_list (pe_dget (hu_of hr) (pv 0) pe_str (fun _ _ => rfl))) (blkOk_by (N := ["_law_h", "_law_key", "_law_found", "_law_number", "_law_letter_here", "_law_one"]) (sc := defScope s_freed) (by decide +kernel)) (fun _ _ _ _ _ => (pg_name (i := 5) sc_freed.nd rfl (Or.inl rfl))) (fun _ _ _ _ _ => (pts_one (pt_cmpR (op_neDK K rfl hr.units) (pv 5) (pv 4) (nomark _)))) (fun _ _ _ _ _ => (pv 5)))) rfl)
          (pss_one (ps_if (pt_cmpR op_gt (pe_ix ix_tup (pv 4) pe_int (fun _ _ => rfl)) (pe_ix ix_list (pe_dget (hu_of hr) (pv 0) pe_str (fun _ _ => rfl)) (pv 1) (fun _ _ => rfl)) (nomark _))
            (pss_cons (ps_expr (pc g_do hr (pa_cons (pv 0) (pa_cons (pv 4) pa_nil))))
            (pss_one (ps_expr (pe_bm PySem.F.plainAttrs_list PySem.F.slot_list_append PySem.F.type_list_append mt_append (pv 2) (pa_cons (pe_ix ix_tup (pv 4) pe_int (fun _ _ => rfl)) pa_nil)))))
            pss_nil)))
          pss_nil)))
      (pss_one (ps_ret (pv 2))))), ?_⟩
  have z0 : 0 ≤ sizeLine := by decide
  have hk := (List.getElem?_eq_some_iff.mp eh).1
  refine ⟨z0, fun p hp => ?_⟩
  have t1 := (Tr.refl H c).new (o := .lst []) hp nl
  have hc1 := (t1.now hc).tail
  have o1 := o.mono t1.mono
  obtain ⟨e, o1'⟩ := o1.ex
  obtain ⟨xs, fx, rx⟩ := o1'.as_
  have hxl : xs.length = as.length := by rw [rx.length, List.length_map]
  have hfew := ar.few
  -- [(letter[1], letter) for letter in h["aside"] if letter[2] == key]
  refine ⟨_, rfl, O.r, _, rfl, o1'.ga hc1, e, rfl, ⟨_, fx.sq⟩, fun D hD => ?_⟩
  refine lc_list (K := K) (a := e) (xs := xs) (fun i H2 => ∃ zs, Tr H c H2 ((D, .lst zs) :: (p, .lst []) :: c) ∧ Mono (upd H p (.lst [])) H2 ∧ RpL K H2 (((as.take i).filter fun l => decide (keyL l = k)).map pairD) zs)
    ⟨[], t1.new hD nl, Mono.new hD, .nil⟩ (fun i H2 _ ⟨_, _, m, _⟩ => (fx.mono m).sq) ?_ ?_
  · rintro i x H2 hi ⟨zs, t2, m2, rz⟩
    have hi' : i < as.length := by
      have := (List.getElem?_eq_some_iff.mp hi).1
      omega
    obtain ⟨l, el⟩ : ∃ l, as[i]? = some l := ⟨as[i], List.getElem?_eq_getElem hi'⟩
    obtain ⟨x', ex, rxl⟩ := (rx.mono m2).get (i := i) (d := l.enc) (by rw [List.getElem?_map, el]; rfl)
    rw [hi] at ex
    cases ex
    obtain ⟨hin, _⟩ := ar.in_ l (List.mem_of_getElem? el)
    obtain ⟨m, ch, ec, rfl⟩ := hin
    obtain ⟨a, rfl, ha⟩ := rxl.chg_inv
    have hzs : zs.length ≤ i := by
      rw [rz.length, List.length_map]
      refine Nat.le_trans (List.length_filter_le _ _) ?_
      rw [List.length_take]
      exact Nat.min_le_left _ _
    refine ⟨rfl, _, rfl, a, _, _, _, rfl, rfl, SqT.of ha, rfl, _, rfl, rfl, _, rfl, ite2 (fun h0 => ?_) fun h0 => ?_⟩
    · have hkk : ch.key = k := by
        have := V.int.inj (of_decide_eq_true h0)
        omega
      refine ⟨_, rfl, a, _, _, _, rfl, rfl, SqT.of ha, rfl, _, rfl, (by show 2 ≤ sizeLine; decide), fun t ht => ?_⟩
      have hh := t2.now hc
      obtain ⟨s3, r3⟩ := snoc_tup (K := K) (ds := [.int (m + 1 : Nat), Letter.enc (.change (m + 1) ch (lof (cs.take m) ch.key))]) hh ht (.cons .int (.cons rxl .nil))
      refine ⟨zs, by rw [upd_ne (ne_of_none hh.head ht)]; exact hh.head, small1000 (by omega), zs ++ [.ref t], t2.trans s3, m2.trans s3.mono, ?_⟩
      rw [take_snoc el, List.filter_append, List.map_append]
      have e1 : List.filter (fun l => decide (keyL l = k)) [Letter.change (m + 1) ch (lof (cs.take m) ch.key)] = [Letter.change (m + 1) ch (lof (cs.take m) ch.key)] := List.filter_cons_of_pos (l := []) (decide_eq_true hkk)
      rw [e1]
      exact (rz.mono s3.mono).snoc r3
    · have hkk : ¬ ch.key = k := fun q => ndec h0 (by rw [q])
      refine ⟨zs, t2, m2, ?_⟩
      rw [take_snoc el, List.filter_append]
      have e1 : List.filter (fun l => decide (keyL l = k)) [Letter.change (m + 1) ch (lof (cs.take m) ch.key)] = [] := List.filter_cons_of_neg (l := []) (by show ¬ decide (ch.key = k) = true; simpa using hkk)
      rw [e1, List.append_nil]
      exact rz
  rintro H2 ⟨zs, t2, m2, rz⟩
  rw [hxl, List.take_length, ar.at_ k h eh] at rz
  have hls : ∀ l ∈ h.aside.map (asL k), InS cs l ∧ keyL l < hs.length := fun l hl => by
    rw [← ar.at_ k h eh] at hl
    exact ar.in_ l (List.mem_filter.mp hl).1
  have hnd : (asN h.aside).Nodup := by
    rw [← numL_as k, ← ar.at_ k h eh]
    exact ar.nd.sublist ((List.filter_sublist (p := _)).map _)
  have hzl : zs.length = (h.aside.map (asL k)).length := by rw [rz.length, List.length_map]
  have hfew2 : h.aside.length ≤ cs.length := by
    have h1 : ((as.filter fun l => decide (keyL l = k))).length ≤ as.length := List.length_filter_le _ _
    rw [ar.at_ k h eh, List.length_map] at h1
    omega
  refine ⟨D, zs, h.aside.map (asL k), rfl, SqL.of (t2.now hc).head, rz.dp, fun l hl => (hls l hl).1.ch, fun l hl l' hl' q => (hls l hl).1.same (hls l' hl').1 q, fun q hq => ?_⟩
  have hpr := rz.pairs
  have hsrt := pairs_srt hzl
  rw [numL_as] at hsrt
  have hmemb : ∀ b ∈ (zs.zip (h.aside.map (asL k))).mergeSort byN, b.2 ∈ h.aside.map (asL k) ∧ Rp K H2 (pairD b.2) b.1 := fun b hb => hpr b ((List.mergeSort_perm _ _).mem_iff.mp hb)
  generalize (zs.zip (h.aside.map (asL k))).mergeSort byN = bs at hsrt hmemb ⊢
  have t3 := t2.new (o := .lst (bs.map Prod.fst)) hq nl
  have mq := Mono.new (o := .lst (bs.map Prod.fst)) hq
  have hsn : (srt (asN h.aside)).Nodup := (srt_perm _).nodup_iff.mpr hnd
  have hbl : bs.length ≤ 100 := by
    have := congrArg List.length hsrt
    rw [List.length_map, (srt_perm _).length_eq, asN, List.length_map] at this
    omega
  have hrefl : (hs.set k h) = hs := set_back eh
  refine ⟨q, rfl, ⟨_, SqL.of upd_same⟩, for_list (K := K) (a := q) (xs := bs.map Prod.fst) (fun i σ H3 => ∃ (v3 v4 : Option V) (c' : Lg) (st : HK × List Int) (as' : List Letter), σ = [some (.ref O.r), some (.int k), some (.ref p), v3, v4, none] ∧ st = ((srt (asN h.aside)).take i).foldl HK.fstep (h, []) ∧
      Mono H2 H3 ∧ O3 K O (hs.set k st.1) as' H3 c' ∧ AsR cs (hs.set k st.1) as' ∧ Tr H c H3 ((q, .lst (bs.map Prod.fst)) :: (D, .lst zs) :: (p, .lst (st.2.map V.int)) :: c'))
    ⟨none, none, c, (h, []), as, rfl, rfl, mq, ?_, ?_, t3⟩ (fun i σ H3 _ ⟨_, _, _, _, _, _, _, _, _, _, t⟩ => SqL.of (t.now hc).head) ?_ ?_⟩
  · rw [hrefl]
    exact o.mono t3.mono
  · rw [hrefl]
    exact ar
  · rintro i x σ H3 hi ⟨v3, v4, c', st, as', rfl, est, m3, o3, ar3, t3⟩
    rw [List.getElem?_map] at hi
    obtain ⟨b, eb, rfl⟩ : ∃ b, bs[i]? = some b ∧ x = b.1 := by
      cases q : bs[i]? with
      | none =>
        rw [q] at hi
        cases hi
      | some b =>
        rw [q] at hi
        exact ⟨b, rfl, (Option.some.inj hi).symm⟩
    obtain ⟨hb1, hb2⟩ := hmemb b (List.mem_of_getElem? eb)
    have en : (srt (asN h.aside))[i]? = some (numL b.2 : Int) := by rw [← hsrt, List.getElem?_map, eb]; rfl
    obtain ⟨a0, ha0, eb2⟩ := List.mem_map.mp hb1
    have en' : numL b.2 = a0.n := by rw [← eb2]; rfl
    rw [en'] at en
    have hil : i < 100 := by
      have := (List.getElem?_eq_some_iff.mp eb).1
      omega
    have hins := (hls _ hb1).1
    have hnot : (a0.n : Int) ∉ (srt (asN h.aside)).take i := fun hm => by
      obtain ⟨j, hj⟩ := List.getElem?_of_mem hm
      have hji : j < i := by
        have := (List.getElem?_eq_some_iff.mp hj).1
        rw [List.length_take] at this
        omega
      rw [List.getElem?_take_of_lt hji] at hj
      have := nd_ix hsn hj en
      omega
    obtain ⟨a, ha, ean⟩ := findA_some (asN_of ha0)
    have : a = a0 := nd_same hnd (findA_mem ha) ha0 (by omega)
    subst this
    have ha2 : findA st.1.aside a.n = some a := by
      rw [est, fold_find hnot]
      exact ha
    have est' : HK.fstep st a.n = ((srt (asN h.aside)).take (i + 1)).foldl HK.fstep (h, []) := by
      rw [take_snoc en, List.foldl_append, ← est]
      rfl
    have hisn : IsN cs k a.n := by
      have := hins.isN
      rw [← eb2] at this
      exact this
    have hh3 := t3.now hc
    have hc3 := hh3.tail.tail.tail
    have eg3 : (hs.set k st.1)[k]? = some st.1 := List.getElem?_set_self hk
    -- number, letter = ..
    obtain ⟨t, us, ebt, hbt, rus⟩ := (hb2.mono m3).tup_inv
    obtain ⟨u1, us, rfl, ru1, rus⟩ := rus.cons_inv
    obtain ⟨u2, us, rfl, ru2, rus⟩ := rus.cons_inv
    have := rus.nil_inv
    subst this
    have := Rp.int_iff.mp ru1
    subst this
    have ru2' := ru2
    rw [← eb2] at ru2
    obtain ⟨al, rfl, hal⟩ := Rp.chg_inv (c := ⟨k, false, a.worth⟩) ru2
    refine ⟨t, _, ebt, SqT.of hbt, rfl, _, _, rfl, _, _, rfl, rfl, ?_⟩
    obtain ⟨e3, o3'⟩ := o3.ex
    obtain ⟨ys, fy, ry⟩ := o3'.as_
    have hyl : ys.length = as'.length := by rw [ry.length, List.length_map]
    have hfew3 := ar3.few
    have au : atI (((hs.set k st.1).map fun h => h.upto).map V.int) (k : Int) = some (V.int st.1.upto) := at_of (j := k) rfl (by rw [List.getElem?_map, List.getElem?_map, eg3]; rfl)
    -- h["aside"] = [one for one in h["aside"] if one != letter]
    have es1 : (a.n : Int) ≤ st.1.upto → HK.fstep st a.n = ({ st.1 with aside := dropA st.1.aside a.n }, st.2) := fun h0 => by
      unfold HK.fstep
      rw [ha2]
      dsimp only
      rw [if_pos h0]
    have es2 : ¬ (a.n : Int) ≤ st.1.upto → (a.ahead : Int) ≤ st.1.upto → HK.fstep st a.n = (({ st.1 with aside := dropA st.1.aside a.n } : HK).done a.n false a.worth, st.2 ++ [(a.n : Int)]) := fun h0 h1 => by
      unfold HK.fstep
      rw [ha2]
      dsimp only
      rw [if_neg h0, if_pos h1]
    have es3 : ¬ (a.n : Int) ≤ st.1.upto → ¬ (a.ahead : Int) ≤ st.1.upto → HK.fstep st a.n = st := fun h0 h1 => by
      unfold HK.fstep
      rw [ha2]
      dsimp only
      rw [if_neg h0, if_neg h1]
    have ar4 := ar3.drop eg3 hisn
    rw [List.set_set] at ar4
    -- what the new list is
    have turn : ∀ (j : Nat) (x : V) (H4 : Hp) (D2 : Addr), ys[j]? = some x → (∃ zs2, Tr H3 [] H4 [(D2, .lst zs2)] ∧ RpL K H4 (((as'.take j).filter fun l => decide (numL l ≠ a.n)).map Letter.enc) zs2) →
        ∃ l', as'[j]? = some l' ∧ Dp K H4 x l'.enc ∧ Rp K H4 l'.enc x ∧ PyData.eqv l'.enc (asL k a).enc = decide (numL l' = a.n) := fun j x H4 D2 hj ⟨zs2, t4, _⟩ => by
      have hj' : j < as'.length := by
        have := (List.getElem?_eq_some_iff.mp hj).1
        omega
      obtain ⟨l', el'⟩ : ∃ l', as'[j]? = some l' := ⟨as'[j], List.getElem?_eq_getElem hj'⟩
      obtain ⟨x', ex, rx'⟩ := (ry.mono t4.mono).get (i := j) (d := l'.enc) (by rw [List.getElem?_map, el']; rfl)
      rw [hj] at ex
      cases ex
      refine ⟨l', el', rx'.dp, rx', ?_⟩
      have hins2 : InS cs (asL k a) := by rw [eb2]; exact hins
      exact (ar3.in_ l' (List.mem_of_getElem? el')).1.eqv hins2
    have body : ∀ (D2 : Addr) (zs2 : List V) (ob : Obj) (H4 : Hp), Tr H3 [] H4 [(D2, .lst zs2)] → RpL K H4 ((as'.filter fun l => decide (numL l ≠ a.n)).map Letter.enc) zs2 →
        ∃ c4, O3r K O D2 ((hs.set k st.1).map wv) ((hs.set k st.1).map fun h => (h.since : Int)) ((hs.set k st.1).map fun h => h.upto) (as'.filter fun l => decide (numL l ≠ a.n)) (upd (upd H4 D2 (.frz ob (.lst zs2))) O.r (.dK (rec3 O D2))) c4 ∧
          Tr H c (upd (upd H4 D2 (.frz ob (.lst zs2))) O.r (.dK (rec3 O D2))) ((q, .lst (bs.map Prod.fst)) :: (D, .lst zs) :: (p, .lst (st.2.map V.int)) :: c4) ∧ Mono H3 (upd (upd H4 D2 (.frz ob (.lst zs2))) O.r (.dK (rec3 O D2))) := fun D2 zs2 ob H4 t4 rz2 => by
      have g4 : Grow H3 (upd H4 D2 (.frz ob (.lst zs2))) := t4.fz (ob := ob) .nil
      have hc4 := g4.has' hc3
      obtain ⟨c4, o4, t5⟩ := (o3'.mono g4.mono).puta (e' := D2) (as' := as'.filter fun l => decide (numL l ≠ a.n)) hc4 FzL.frz (rz2.mono (t4.own.mono_put (o' := .frz ob (.lst zs2))))
      exact ⟨c4, o4, (t3.grow g4).trans (t5.left (D := [(q, .lst (bs.map Prod.fst)), (D, .lst zs), (p, .lst (st.2.map V.int))])), g4.mono.trans t5.mono⟩
    have hp3 : ∀ {H' : Hp} {X : Lg} {zz : List V}, Has H' ((q, HO.lst (bs.map Prod.fst)) :: (D, .lst zs) :: (p, .lst zz) :: X) → H' p = some (.lst zz) := fun h => h.tail.tail.head
    have hlen2 : st.2.length ≤ i := by
      have := fold_len (l := (srt (asN h.aside)).take i) (st := (h, []))
      rw [← est, List.length_take] at this
      have h0 : (([] : List Int)).length = 0 := rfl
      show st.2.length ≤ i
      have : st.2.length ≤ 0 + min i (srt (asN h.aside)).length := this
      omega
    have hor : (a.n : Int) ≤ st.1.upto ∨ (¬ (a.n : Int) ≤ st.1.upto ∧ (a.ahead : Int) ≤ st.1.upto) ∨ (¬ (a.n : Int) ≤ st.1.upto ∧ ¬ (a.ahead : Int) ≤ st.1.upto) := by omega
    rcases hor with h0 | ⟨h0, h1⟩ | ⟨h0, h1⟩
    refine ⟨_, rfl, al, _, _, _, rfl, rfl, SqT.of hal, rfl, _, rfl, O.r, _, rfl, o3'.gu hc3, _, rfl, O.l3, _, _, _, rfl, rfl, SqL.of (o3'.at3 hc3), au, _, _, rfl, rfl, _, rfl, iteP (decide_eq_true h0) (iteP rfl ?_)⟩
    rotate_left
    refine ⟨_, rfl, al, _, _, _, rfl, rfl, SqT.of hal, rfl, _, rfl, O.r, _, rfl, o3'.gu hc3, _, rfl, O.l3, _, _, _, rfl, rfl, SqL.of (o3'.at3 hc3), au, _, _, rfl, rfl, _, rfl, iteM (by simpa using h0) ⟨_, rfl, al, _, _, _, rfl, rfl, SqT.of hal, rfl, _, rfl, O.r, _, rfl, o3'.gu hc3, _, rfl, O.l3, _, _, _, rfl, rfl, SqL.of (o3'.at3 hc3), au, _, _, rfl, rfl, _, rfl, iteP (decide_eq_true h1) ?_⟩⟩
    rotate_left
    · refine ⟨_, rfl, al, _, _, _, rfl, rfl, SqT.of hal, rfl, _, rfl, O.r, _, rfl, o3'.gu hc3, _, rfl, O.l3, _, _, _, rfl, rfl, SqL.of (o3'.at3 hc3), au, _, _, rfl, rfl, _, rfl, iteM (by simpa using h0) ⟨_, rfl, al, _, _, _, rfl, rfl, SqT.of hal, rfl, _, rfl, O.r, _, rfl, o3'.gu hc3, _, rfl, O.l3, _, _, _, rfl, rfl, SqL.of (o3'.at3 hc3), au, _, _, rfl, rfl, _, rfl, iteM (by simpa using h1) ?_⟩⟩
      exact ⟨_, _, c', st, as', rfl, by rw [← est', es3 h0 h1], m3, o3, ar3, t3⟩
    all_goals
      refine rd_fz ⟨_, rfl, O.r, _, rfl, o3'.ga hc3, e3, rfl, ⟨_, fy.sq⟩, fun D2 hD2 => ?_⟩
      refine lc_list (K := K) (a := e3) (xs := ys) (fun j H4 => ∃ zs2, Tr H3 [] H4 [(D2, .lst zs2)] ∧ RpL K H4 (((as'.take j).filter fun l => decide (numL l ≠ a.n)).map Letter.enc) zs2) ⟨[], (Tr.refl H3 []).new hD2 nl, .nil⟩ (fun j H4 _ ⟨_, t, _⟩ => (fy.mono t.mono).sq) ?_ ?_
      · rintro j x H4 hj hz
        obtain ⟨l', el', dx, rx', ev⟩ := turn j x H4 D2 hj hz
        obtain ⟨zs2, t4, rz2⟩ := hz
        refine ⟨rfl, _, rfl, _, rfl, _, _, dx, (ru2.mono t4.mono).dp, (Gd.letter l').shaped, (Gd.letter (asL k a)).shaped, _, rfl, ?_⟩
        rw [ev]
        have hj' := (List.getElem?_eq_some_iff.mp hj).1
        have hz2 : zs2.length ≤ j := by
          rw [rz2.length, List.length_map]
          refine Nat.le_trans (List.length_filter_le _ _) ?_
          rw [List.length_take]
          exact Nat.min_le_left _ _
        by_cases q : numL l' = a.n
        · refine iteM (by simp [q]) ⟨zs2, t4, ?_⟩
          rw [take_snoc el', List.filter_append, show List.filter (fun l => decide (numL l ≠ a.n)) [l'] = [] from List.filter_cons_of_neg (l := []) (by simp [q]), List.append_nil]
          exact rz2
        · refine iteP (by simp [q]) ⟨_, rfl, _, t4.own.head, small1000 (by omega), zs2 ++ [x], t4.put .nil nl, ?_⟩
          rw [take_snoc el', List.filter_append, show List.filter (fun l => decide (numL l ≠ a.n)) [l'] = [l'] from List.filter_cons_of_pos (l := []) (by simp [q]), List.map_append]
          exact (rz2.mono t4.own.mono_put).snoc (rx'.mono t4.own.mono_put)
      rintro H4 ⟨zs2, t4, rz2⟩
      rw [hyl, List.take_length] at rz2
      refine ⟨D2, zs2, rfl, t4.own.head, fun ob => ?_⟩
      obtain ⟨c4, o4, t5, m4⟩ := body D2 zs2 ob H4 t4 rz2
      have g4 : Grow H3 (upd H4 D2 (.frz ob (.lst zs2))) := t4.fz (ob := ob) .nil
      refine ⟨_, rfl, O.r, _, rfl, DPut.k (k := Sum.inr "aside") ((o3'.mono g4.mono).atr (g4.has' hc3)) (by show 4 < sizeLine; decide), ?_⟩
      rw [rec3_put]
      generalize upd (upd H4 D2 (.frz ob (.lst zs2))) O.r (.dK (rec3 O D2)) = H5 at *
      have hc5 := (t5.now hc).tail.tail.tail
      have hal5 := m4 _ _ hal trivial
      refine ⟨_, rfl, al, _, _, _, rfl, rfl, SqT.of hal5, rfl, _, rfl, O.r, _, rfl, o4.gu hc5, _, rfl, O.l3, _, _, _, rfl, rfl, SqL.of (o4.at3 hc5), au, _, _, rfl, rfl, _, rfl, ?_⟩
      have o5 : O3 K O (hs.set k { st.1 with aside := dropA st.1.aside a.n }) (as'.filter fun l => decide (numL l ≠ a.n)) H5 c4 := ⟨D2, by
        rw [List.map_set, List.map_set, List.map_set] at o4 ⊢
        exact o4⟩
    · refine iteM (by simpa using h0) ⟨_, _, c4, HK.fstep st a.n, as'.filter fun l => decide (numL l ≠ a.n), rfl, est', m3.trans m4, ?_, ?_, ?_⟩
      · rw [es1 h0]
        exact o5
      · rw [es1 h0]
        exact ar4
      · rw [es1 h0]
        exact t5
    · refine iteP (by simpa using h0) ?_
      refine ⟨_, rfl, _, rfl, rfl, O, _, _, c4, .ref al, a.n, a.ahead, ⟨k, false, a.worth⟩, { st.1 with aside := dropA st.1.aside a.n }, rfl, o5, hc5, ru2.mono m4, List.getElem?_set_self hk, fun _ => (by show 0 ≤ st.1.upto; omega), fun c6 H6 o6 t6 => ?_⟩
      rw [List.set_set] at o6
      have t7 := t5.trans (t6.left (D := [(q, .lst (bs.map Prod.fst)), (D, .lst zs), (p, .lst (st.2.map V.int))]))
      have hh7 := t7.now hc
      have hal7 := t6.mono _ _ hal5 trivial
      refine ⟨_, rfl, .inl ⟨rfl, _, SqL.of (hp3 hh7)⟩, _, rfl, al, _, _, _, rfl, rfl, SqT.of hal7, rfl, _, _, _, rfl, rfl, hp3 hh7, by rw [List.length_map]; exact small1000 (by omega), ?_⟩
      have pm1 : ∀ {zz : List V} {X : Lg}, ((q, HO.lst (bs.map Prod.fst)) :: (D, .lst zs) :: (p, .lst zz) :: X).Perm ((p, .lst zz) :: (q, HO.lst (bs.map Prod.fst)) :: (D, .lst zs) :: X) := fun {zz X} => by
        have := List.perm_middle (a := (p, HO.lst zz)) (l₁ := [(q, HO.lst (bs.map Prod.fst)), (D, .lst zs)]) (l₂ := X)
        exact this
      have t8 := ((t7.perm pm1).put (o' := .lst (st.2.map V.int ++ [.int a.n])) hc nl).perm pm1.symm
      have mp := ((t7.perm pm1).now hc).mono_put (o' := .lst (st.2.map V.int ++ [.int a.n]))
      refine ⟨_, _, c6, HK.fstep st a.n, as'.filter fun l => decide (numL l ≠ a.n), rfl, est', (m3.trans m4).trans (t6.mono.trans mp), ?_, ?_, ?_⟩
      · rw [es2 h0 h1]
        exact o6.mono mp
      · rw [es2 h0 h1]
        exact ar4.congr (by rw [List.length_set, List.length_set]) fun j g e' => by
          by_cases hj : k = j
          · subst hj
            rw [List.getElem?_set_self hk] at e'
            cases e'
            exact ⟨_, List.getElem?_set_self hk, rfl⟩
          · rw [List.getElem?_set_ne hj] at e'
            exact ⟨g, by rw [List.getElem?_set_ne hj]; exact e', rfl⟩
      · rw [es2 h0 h1, List.map_append]
        exact t8
  · rintro σ H3 ⟨v3, v4, c', st, as', rfl, est, m3, o3, ar3, t3⟩
    have hle : (srt (asN h.aside)).length ≤ (bs.map Prod.fst).length := by
      rw [← hsrt, List.length_map, List.length_map]
      exact Nat.le_refl _
    rw [List.take_of_length_le hle] at est
    have e1 : st = h.free := est
    subst e1
    exact ⟨_, rfl, go p as' c' H3 o3 ar3 t3.tail.tail⟩
end
end Cu

namespace Cu
open PySem PySem.Spec PyProof.Rows L2
/-- list + list, lists that stay among them -/
def rCatZ (K : PySem.W.Frag) : R2 := fun x y H Q => ∃ l b xs zs, x = .ref l ∧ y = .ref b ∧ SqL K H l xs ∧ SqL K H b zs ∧ xs.length + zs.length ≤ sizeLine ∧ ∀ p, H p = none → Q (.ref p) (upd H p (.lst (xs ++ zs)))
theorem op_catZ {X : Cx} : OpR X (binaryOp .Add) (rCatZ X.K) := by
  intro pins s σ H x y v u Q I rx ry h
  obtain ⟨l, b, xs, zs, rfl, rfl, hl, hb, hz, q⟩ := h
  cases rx
  cases ry
  obtain ⟨i1, r1, p1, z1⟩ := I.list hl
  obtain ⟨i2, r2, p2, z2⟩ := I.list hb
  obtain ⟨⟨lc, ld, lq, ls⟩, ho1, e1, n1, e2⟩ := p1.isList
  obtain ⟨⟨bc, bd, bq, bs⟩, ho2, e3, n2, e4⟩ := p2.isList
  simp only at e1 e2 e3 e4
  subst e1 e2 e3 e4
  have hsz : i1.toArray.size + i2.toArray.size ≤ sizeLine := by
    rw [List.size_toArray, List.size_toArray, ← r1.length, ← r2.length]
    exact hz
  refine concat_meets ⟨_, ho1, rfl⟩ ⟨_, ho2, rfl⟩ noFill_list_add seq_list_add F.slot_list_add F.entry_list_add (F.args_list_add_2 _ _) (list_addW l b i1.toArray i2.toArray n1 n2 ld bd ls bs hsz) ⟨ho1, ho2, ?_⟩
  rw [show i1.toArray ++ i2.toArray = (i1 ++ i2).toArray by simp]
  exact ⟨.ref _, _, I.lnew (t' := s.toks) (r1.append r2) (by rw [List.length_append]; exact hz), rfl, q _ I.fresh⟩
end Cu

namespace Cu
open PySem PySem.Spec PyProof.Rows L2
abbrev s_hear : Stmt := (top 21)
theorem sc_hear : FnScope ["_law_h", "_law_letter_here", "_law_found", "_law_kind", "_law_number", "_law_key", "_law_word", "_law_worth_here", "_law_ahead", "_law_k"] ["_law_h", "_law_letter_here"] (defScope s_hear) := ⟨rfl, rfl, rfl, by decide +kernel, rfl, by decide +kernel, by decide +kernel⟩

theorem hu65 {k : Nat} {A : Around} (r : Room k A) : A.units + 65 < cLine := by
  have := r.un
  omega
def spO3hear (K : PySem.W.Frag) : Sp := fun vs H Q _ => vs.length = 2 ∧ ∃ (O : OA) (hs : List HK) (as : List Letter) (c : Lg) (nk : Nat) (cs : List Ch) (v : V) (l : Letter), vs = [.ref O.r, v] ∧ O3 K O hs as H c ∧ Has H c ∧ AsR cs hs as ∧ AllI nk cs hs ∧ nk ≤ 8 ∧ cs.length ≤ 100 ∧ (∀ c ∈ cs, c.key < nk) ∧ IsLet nk cs l ∧ Rp K H l.enc v ∧
  ∀ (p : Addr) (as' : List Letter) (c' : Lg) (H' : Hp), O3 K O (hear hs l) as' H' c' → AsR cs (hear hs l) as' → Tr H c H' ((p, .lst ((heard hs l).map V.int)) :: c') → Q (.ref p) H'
theorem AsR.any {cs : List Ch} {hs : List HK} {as : List Letter} {l : Letter} (a : AsR cs hs as) (h : InS cs l) : ((as.map Letter.enc).any fun z => PyData.eqv z l.enc) = as.any fun x => decide (numL x = numL l) := by
  rw [List.any_map, Bool.eq_iff_iff, List.any_eq_true, List.any_eq_true]
  constructor
  · rintro ⟨x, hx, q⟩
    have q : PyData.eqv x.enc l.enc = true := q
    rw [(a.in_ x hx).1.eqv h] at q
    exact ⟨x, hx, q⟩
  · rintro ⟨x, hx, q⟩
    refine ⟨x, hx, ?_⟩
    show PyData.eqv x.enc l.enc = true
    rw [(a.in_ x hx).1.eqv h]
    exact q
section
variable {P : Program} {w : World} {K : PySem.W.Frag} {mg : Str → Option Value} {base : Heap}
theorem ok_ohear (F : Fd K mg "_law_hear" s_hear) (Bm : Blt mg) (g_do : Gf P w K mg base 1 "_law_do" ["_law_h", "_law_letter_here"] (spO3do K)) (g_freed : Gf P w K mg base 2 "_law_freed" ["_law_h", "_law_key"] (spO3freed K)) : Gf P w K mg base 3 "_law_hear" ["_law_h", "_law_letter_here"] (spO3hear K) := by
  refine F.ok sc_hear (fun _ _ _ _ _ _ us hl => match us, hl with | [_, _], _ => rfl) len_of fun qual f cdv A0 outer s H vs Q E hr h => ?_
  obtain ⟨_, O, hs, as, c, nk, cs, v, l, rfl, o, hc, ar, ai, hk8, hcl, hck, il, rv, go⟩ := h
  refine ⟨_, (pss_cons (ps_set (i := 2) sc_hear.nd rfl (Or.inl rfl) (pe_lst pa_nil))
      (pss_cons (ps_if (pt_cmpR op_eq (pe_ix ix_tup (pv 1) pe_int (fun _ _ => rfl)) pe_str (nomark _))
        (pss_cons (ps_asg (pv 1) (pg_tup rfl (pgs_cons (pg_name (i := 3) sc_hear.nd rfl (Or.inl rfl)) (pgs_cons (pg_name (i := 4) sc_hear.nd rfl (Or.inl rfl)) (pgs_cons (pg_name (i := 5) sc_hear.nd rfl (Or.inl rfl)) (pgs_cons (pg_name (i := 6) sc_hear.nd rfl (Or.inl rfl)) (pgs_cons (pg_name (i := 7) sc_hear.nd rfl (Or.inl rfl)) (pgs_cons (pg_name (i := 8) sc_hear.nd rfl (Or.inl rfl)) pgs_nil))))))))
        (pss_one (ps_if (pt_cmpR op_gt (pv 4) (pe_ix ix_list (pe_dget (hu_of hr) (pv 0) pe_str (fun _ _ => rfl)) (pv 5) (fun _ _ => rfl)) (nomark _))
          (pss_one (ps_if (PW.pt (pw_or (pt_cmpR op_eq (pv 6) pe_str (nomark _)) (pw_or1 (pt_cmpR op_ge (pe_ix ix_list (pe_dget (hu_of hr) (pv 0) pe_str (fun _ _ => rfl)) (pv 5) (fun _ _ => rfl)) (pv 8) (nomark _)))))
            (pss_cons (ps_expr (pc g_do hr (pa_cons (pv 0) (pa_cons (pv 1) pa_nil))))
            (pss_one (ps_set (i := 2) sc_hear.nd rfl (Or.inl rfl) (pe_op op_cat (pe_lst (pa_cons (pv 4) pa_nil)) (pc g_freed hr (pa_cons (pv 0) (pa_cons (pv 5) pa_nil)))))))
            (pss_one (ps_if (pt_cmpR (op_notInD (hu65 hr)) (pv 1) (pe_dget (hu_of hr) (pv 0) pe_str (fun _ _ => rfl)) (by rfl))
              (pss_one (ps_dput (hu_of hr) (pv 0) pe_str (pe_fz (pe_op op_catZ (pe_dget (hu_of hr) (pv 0) pe_str (fun _ _ => rfl)) (pe_lst (pa_cons (pv 1) pa_nil)))) rfl))
              pss_nil))))
          pss_nil)))
        (pss_one (ps_if (pt_cmpR op_eq (pe_ix ix_tup (pv 1) pe_int (fun _ _ => rfl)) pe_str (nomark _))
          (pss_one (ps_for PassesOwn.never rfl (pi_range1 rfl Bm.range (pa_cons (pe_callB call_len_seq rfl Bm.len (by decide +kernel) (pa_cons (pe_ix ix_tup (pv 1) pe_int (fun _ _ => rfl)) pa_nil)) pa_nil)) (pg_name (i := 9) sc_hear.nd rfl (Or.inl rfl))
            (pss_cons (ps_set (i := 5) sc_hear.nd rfl (Or.inl rfl) (pe_op op_add (pe_ix ix_tup (pv 1) pe_int (fun _ _ => rfl)) (pv 9)))
            (pss_one (ps_if (pt_cmpR op_lt (pe_ix ix_list (pe_dget (hu_of hr) (pv 0) pe_str (fun _ _ => rfl)) (pv 5) (fun _ _ => rfl)) (pe_ix ix_tup (pv 1) pe_int (fun _ _ => rfl)) (nomark _))
              (pss_cons (ps_asg (pe_ix ix_tup (pe_ix ix_tup (pv 1) pe_int (fun _ _ => rfl)) (pv 9) (fun _ _ => rfl)) (pg_tup rfl (pgs_cons (pg_sub (pe_dget (hu_of hr) (pv 0) pe_str (fun _ _ => rfl)) (pv 5) set_list) (pgs_cons (pg_sub (pe_dget (hu_of hr) (pv 0) pe_str (fun _ _ => rfl)) (pv 5) set_list) pgs_nil))))
              (pss_cons (ps_asg (pe_ix ix_tup (pv 1) pe_int (fun _ _ => rfl)) (pg_sub (pe_dget (hu_of hr) (pv 0) pe_str (fun _ _ => rfl)) (pv 5) set_list))
              (pss_one (ps_set (i := 2) sc_hear.nd rfl (Or.inl rfl) (pe_op op_cat (pv 2) (pc g_freed hr (pa_cons (pv 0) (pa_cons (pv 5) pa_nil))))))))
              pss_nil)))))
          (pss_one (ps_for PassesOwn.never rfl (pi_range1 rfl Bm.range (pa_cons (pe_callB call_len_seq rfl Bm.len (by decide +kernel) (pa_cons (pe_ix ix_tup (pv 1) pe_int (fun _ _ => rfl)) pa_nil)) pa_nil)) (pg_name (i := 5) sc_hear.nd rfl (Or.inl rfl))
            (pss_one (ps_if (pt_cmpR op_le (pe_ix ix_tup (pe_ix ix_tup (pv 1) pe_int (fun _ _ => rfl)) (pv 5) (fun _ _ => rfl)) (pe_ix ix_list (pe_dget (hu_of hr) (pv 0) pe_str (fun _ _ => rfl)) (pv 5) (fun _ _ => rfl)) (nomark _))
              (pss_one (ps_asg (pe_callB (call_max2 rfl) rfl Bm.max (by decide +kernel) (pa_cons (pe_ix ix_list (pe_dget (hu_of hr) (pv 0) pe_str (fun _ _ => rfl)) (pv 5) (fun _ _ => rfl)) (pa_cons (pe_ix ix_tup (pv 1) pe_int (fun _ _ => rfl)) pa_nil))) (pg_sub (pe_dget (hu_of hr) (pv 0) pe_str (fun _ _ => rfl)) (pv 5) set_list)))
              pss_nil)))))))
      (pss_one (ps_ret (pv 2))))), ?_⟩
  have z0 : 0 ≤ sizeLine := by decide
  refine ⟨z0, fun p hp => ?_⟩
  have t1 := (Tr.refl H c).new (o := .lst []) hp nl
  have hc1 := (t1.now hc).tail
  have o1 := o.mono t1.mono
  have rv1 := rv.mono t1.mono
  have hfew := ar.few
  cases il with
  | @change m ch ec =>
    obtain ⟨a, rfl, ha⟩ := rv1.chg_inv
    have hk : ch.key < hs.length := by
      rw [ai.1]
      exact hck _ (List.mem_of_getElem? ec)
    obtain ⟨h, eh⟩ : ∃ h, hs[ch.key]? = some h := ⟨hs[ch.key], List.getElem?_eq_getElem hk⟩
    obtain ⟨e1, e2⟩ := hear_change (n := m + 1) (ahead := lof (cs.take m) ch.key) eh
    rw [e1, e2] at go
    have hins : InS cs (.change (m + 1) ch (lof (cs.take m) ch.key)) := ⟨m, ch, ec, rfl⟩
    obtain ⟨e, o1'⟩ := o1.ex
    have au : atI ((hs.map fun h => h.upto).map V.int) (ch.key : Int) = some (V.int h.upto) := at_of (j := ch.key) rfl (by rw [List.getElem?_map, List.getElem?_map, eh]; rfl)
    refine ⟨_, rfl, a, _, _, _, rfl, rfl, SqT.of ha, rfl, rfl, _, rfl, iteP (by decide +kernel) ⟨_, rfl, a, _, rfl, SqT.of ha, rfl, _, _, rfl, _, _, rfl, _, _, rfl, _, _, rfl, _, _, rfl, _, _, rfl, rfl, ?_⟩⟩
    refine ⟨_, rfl, _, rfl, O.r, _, rfl, o1'.gu hc1, _, rfl, O.l3, _, _, _, rfl, rfl, SqL.of (o1'.at3 hc1), au, _, _, rfl, rfl, _, rfl, ?_⟩
    by_cases h0 : ((m + 1 : Nat) : Int) ≤ h.upto
    · have eC : h.chg (m + 1) ch (lof (cs.take m) ch.key) = (h, []) := by rw [HK.chg, if_pos h0]
      rw [eC] at go
      refine iteM (by simp; omega) ⟨_, rfl, go p as c _ ?_ ?_ t1⟩
      · rw [set_back eh]
        exact o1
      · rw [set_back eh]
        exact ar
    refine iteP (decide_eq_true (by omega)) ?_
    have hor : ch.set = true ∨ (ch.set = false ∧ (lof (cs.take m) ch.key : Int) ≤ h.upto) ∨ (ch.set = false ∧ h.upto < (lof (cs.take m) ch.key : Int)) := by
      by_cases q : (lof (cs.take m) ch.key : Int) ≤ h.upto
      · cases ch.set
        · exact .inr (.inl ⟨rfl, q⟩)
        · exact .inl rfl
      · cases ch.set
        · exact .inr (.inr ⟨rfl, by omega⟩)
        · exact .inl rfl
    rcases hor with hset | ⟨hset, h1⟩ | ⟨hset, h1⟩
    refine ⟨_, rfl, rfl, _, rfl, iteP (by rw [hset]; decide +kernel) (iteP rfl ?_)⟩
    rotate_left
    refine ⟨_, rfl, rfl, _, rfl, iteM (by rw [hset]; decide +kernel) ⟨_, rfl, O.r, _, rfl, o1'.gu hc1, _, rfl, O.l3, _, _, _, rfl, rfl, SqL.of (o1'.at3 hc1), au, _, rfl, _, _, rfl, rfl, _, rfl, iteP (decide_eq_true h1) ?_⟩⟩
    rotate_left
    · have eC : h.chg (m + 1) ch (lof (cs.take m) ch.key) = ({ h with aside := putA h.aside ⟨m + 1, ch.worth, lof (cs.take m) ch.key⟩ }, []) := by rw [HK.chg, if_neg h0, if_pos ⟨hset, h1⟩]
      rw [eC] at go
      have arP := ar.put eh hins hset
      obtain ⟨xs, fx, rx⟩ := o1'.as_
      have hxl : xs.length = as.length := by rw [rx.length, List.length_map]
      refine ⟨_, rfl, rfl, _, rfl, iteM (by rw [hset]; decide +kernel) ⟨_, rfl, O.r, _, rfl, o1'.gu hc1, _, rfl, O.l3, _, _, _, rfl, rfl, SqL.of (o1'.at3 hc1), au, _, rfl, _, _, rfl, rfl, _, rfl, iteM (by simp; omega) ?_⟩⟩
      refine ⟨_, rfl, _, rfl, O.r, _, rfl, o1'.ga hc1, _, _, rv1.dp, (Rp.lst fx rx).dp, (Gd.letter _).shaped, (Gd.letters as).shaped, _, rfl, ?_⟩
      rw [ar.any hins]
      have hside : ∀ {ws : HK → V}, True := fun {_} => trivial
      by_cases hin : (as.any fun x => decide (numL x = numL (Letter.change (m + 1) ch (lof (cs.take m) ch.key)))) = true
      · rw [hin]
        have hin2 : (as.any fun l => decide (numL l = m + 1)) = true := hin
        rw [if_pos hin2] at arP
        refine iteM (by decide) ⟨_, rfl, go p as c _ ⟨e, ?_⟩ arP t1⟩
        rw [List.map_set, List.map_set, List.map_set, ← List.map_set, ← List.map_set, ← List.map_set]
        have : ∀ {α : Type} (f : HK → α), f { h with aside := putA h.aside ⟨m + 1, ch.worth, lof (cs.take m) ch.key⟩ } = f h → (hs.set ch.key { h with aside := putA h.aside ⟨m + 1, ch.worth, lof (cs.take m) ch.key⟩ }).map f = hs.map f := fun f q => map_set_same eh q
        rw [this wv rfl, this (fun h => (h.since : Int)) rfl, this (fun h => h.upto) rfl]
        exact o1'
      · have hin2 : ¬ (as.any fun l => decide (numL l = m + 1)) = true := hin
        rw [if_neg hin2] at arP
        have hin3 : (as.any fun x => decide (numL x = numL (Letter.change (m + 1) ch (lof (cs.take m) ch.key)))) = false := by simpa using hin
        rw [hin3]
        refine iteP (by decide) (rd_fz ⟨_, rfl, O.r, _, rfl, o1'.ga hc1, _, rfl, (by show 1 ≤ sizeLine; decide), fun l1 hl1 => ?_⟩)
        have t2 := t1.new (o := .lst [.ref a]) hl1 nl
        have m2 := Mono.new (o := .lst [.ref a]) hl1
        refine ⟨e, l1, xs, [.ref a], rfl, rfl, (fx.mono m2).sq, SqL.of upd_same, Nat.le_trans (show _ ≤ 1000 by rw [hxl]; show as.length + 1 ≤ 1000; omega) (by decide), fun l2 hl2 => ?_⟩
        have t3 := (t2.tail).new (o := .lst (xs ++ [.ref a])) hl2 nl
        have m3 := m2.trans (Mono.new (o := .lst (xs ++ [.ref a])) hl2)
        refine ⟨l2, _, rfl, upd_same, fun ob => ?_⟩
        have g4 := t3.fz (ob := ob) hc
        have m4 := m3.trans ((t3.now hc).mono_put (o' := .frz ob (.lst (xs ++ [.ref a]))))
        have hc4 := (g4.now hc).tail
        have o4 := o1'.mono m4
        refine ⟨_, rfl, O.r, _, rfl, DPut.k (k := Sum.inr "aside") (o4.atr hc4) (by show 4 < sizeLine; decide), ?_⟩
        rw [rec3_put]
        obtain ⟨c5, o5, t5⟩ := o4.puta (e' := l2) (as' := as ++ [Letter.change (m + 1) ch (lof (cs.take m) ch.key)]) hc4 FzL.frz (by
          rw [List.map_append]
          exact (rx.mono m4).snoc (rv1.mono m4))
        refine ⟨_, rfl, go p _ c5 _ ⟨l2, ?_⟩ arP (g4.trans (t5.left (D := [(p, .lst [])])))⟩
        have : ∀ {α : Type} (f : HK → α), f { h with aside := putA h.aside ⟨m + 1, ch.worth, lof (cs.take m) ch.key⟩ } = f h → (hs.set ch.key { h with aside := putA h.aside ⟨m + 1, ch.worth, lof (cs.take m) ch.key⟩ }).map f = hs.map f := fun f q => map_set_same eh q
        rw [this wv rfl, this (fun h => (h.since : Int)) rfl, this (fun h => h.upto) rfl]
        exact o5
    all_goals
      have eC : h.chg (m + 1) ch (lof (cs.take m) ch.key) = (((h.done (m + 1) ch.set ch.worth).free).1, ((m + 1 : Nat) : Int) :: ((h.done (m + 1) ch.set ch.worth).free).2) := by
        rw [HK.chg, if_neg h0, if_neg (by simp [hset]; try omega)]
      rw [eC] at go
      refine ⟨_, rfl, _, rfl, rfl, O, hs, as, c, .ref a, m + 1, lof (cs.take m) ch.key, ch, h, rfl, o1, hc1, rv1, eh, (by intro q; first | omega | (rw [hset] at q; cases q)), fun c2 H2 o2 t2 => ?_⟩
      have t2' := t1.trans (t2.left (D := [(p, .lst [])]))
      refine ⟨_, rfl, (by show 1 ≤ sizeLine; decide), fun l1 hl1 => ?_⟩
      have t3 := t2'.new (o := .lst [.int ((m + 1 : Nat) : Int)]) hl1 nl
      have ml := Mono.new (o := .lst [.int ((m + 1 : Nat) : Int)]) hl1
      have hc3 := (t3.now hc).tail.tail
      refine ⟨_, rfl, _, rfl, rfl, O, _, as, c2, cs, ch.key, h.done (m + 1) ch.set ch.worth, rfl, o2.mono ml, hc3, ar.set (g := h.done (m + 1) ch.set ch.worth) eh rfl, hcl, List.getElem?_set_self hk, fun p4 as4 c4 H4 o4 ar4 t4 => ?_⟩
      rw [List.set_set] at o4 ar4
      have t4' := t3.trans (t4.left (D := [(l1, .lst [.int ((m + 1 : Nat) : Int)]), (p, .lst [])]))
      have hh4 := t4'.now hc
      have wfd : Wf (h.done (m + 1) ch.set ch.worth) := ⟨(ai.2 _ h eh).nd, ((ai.2 _ h eh).wf (by omega)).few⟩
      have hfl := free_len wfd
      refine ⟨l1, p4, _, _, rfl, rfl, hh4.head, hh4.tail.tail.head, Nat.le_trans (show _ ≤ 1000 by rw [List.length_map]; show 1 + _ ≤ 1000; omega) (by decide), fun q5 hq5 => ⟨_, rfl, ?_⟩⟩
      have t5 := t4'.new (o := .lst ([.int ((m + 1 : Nat) : Int)] ++ (h.done (m + 1) ch.set ch.worth).free.2.map V.int)) hq5 nl
      refine go q5 as4 c4 _ (o4.mono (Mono.new hq5)) ar4 (t5.sub ?_)
      exact List.Sublist.cons_cons _ (List.Sublist.cons _ (List.Sublist.cons _ (List.sublist_cons_self _ _)))
  | @part n b e hn hbe hek =>
    obtain ⟨a, t, xs, rfl, ha, ht, hxs, hrow⟩ := rv1.part_inv
    have hbl : b + (partRows cs n b (e - b)).length ≤ hs.length := let_ok (cs := cs) hck ai.1 (.part hn hbe hek)
    have hnk := ai.1
    unfold partL at go
    generalize partRows cs n b (e - b) = rows at *
    obtain ⟨a1, a2⟩ := prt_low (hs := hs) (l := .part n b rows) (b := b) fun k g hk => by
      simp only [hearK]
      rw [if_neg (by omega)]
    obtain ⟨b1, b2⟩ := prt_high (hs := hs) (l := .part n b rows) (e := b + rows.length) fun k g hk => by
      simp only [hearK]
      rw [if_pos (by omega), List.getElem?_eq_none (by omega)]
    have wf := ai.wf (by omega)
    refine ⟨_, rfl, a, _, _, _, rfl, rfl, SqT.of ha, rfl, rfl, _, rfl, iteM (by decide +kernel) ⟨_, rfl, a, _, _, _, rfl, rfl, SqT.of ha, rfl, rfl, _, rfl, iteP (by decide +kernel) ?_⟩⟩
    refine ⟨_, rfl, a, _, _, _, rfl, rfl, SqT.of ha, rfl, t, xs, rfl, .inr (SqT.of ht), _, rfl, by omega, by omega, ?_⟩
    refine for_range (lo := 0) (n := (xs.length : Int).toNat) (fun i σ H2 => ∃ (v5 v9 : Option V) (q : Addr) (as' : List Letter) (c' : Lg), σ = [some (.ref O.r), some (.ref a), some (.ref q), none, none, v5, none, none, none, v9] ∧
      Mono (upd H p (.lst [])) H2 ∧ O3 K O (prt hs (.part n b rows) (b + i)) as' H2 c' ∧ AsR cs (prt hs (.part n b rows) (b + i)) as' ∧ Tr H c H2 ((q, .lst ((fnd hs (.part n b rows) (b + i)).map V.int)) :: c'))
      ⟨none, none, p, as, c, rfl, Mono.refl _, by rw [Nat.add_zero, a1]; exact o1, by rw [Nat.add_zero, a1]; exact ar, by rw [Nat.add_zero, a2]; exact t1⟩ ?_ ?_
    · rintro i σ H2 hi ⟨v5, v9, q, as', c', rfl, m2, o2, ar2, t2⟩
      have hi' : i < rows.length := by omega
      have ez0 : ((0 : Int) + i) = (i : Int) := by omega
      obtain ⟨rw', er⟩ : ∃ r, rows[i]? = some r := ⟨rows[i], List.getElem?_eq_getElem hi'⟩
      obtain ⟨qq, eq, hq⟩ := hrow i rw' er
      have hbi : b + i < hs.length := by omega
      obtain ⟨g, eg⟩ : ∃ g, hs[b + i]? = some g := ⟨hs[b + i], List.getElem?_eq_getElem hbi⟩
      have eg2 : (prt hs (.part n b rows) (b + i))[b + i]? = some g := by rw [prt_get eg, if_neg (Nat.lt_irrefl _)]
      have eK : hearK (b + i) g (.part n b rows) = g.row n rw'.1 rw'.2 := by
        simp only [hearK]
        rw [if_pos (Nat.le_add_right _ _), Nat.add_sub_cancel_left, er]
      have eP : prt hs (.part n b rows) (b + (i + 1)) = (prt hs (.part n b rows) (b + i)).set (b + i) (g.row n rw'.1 rw'.2).1 := by
        rw [← Nat.add_assoc, prt_succ eg, eK]
      have eF : fnd hs (.part n b rows) (b + (i + 1)) = fnd hs (.part n b rows) (b + i) ++ (g.row n rw'.1 rw'.2).2 := by
        rw [← Nat.add_assoc, fnd_succ eg, eK]
      have ez : ((b : Int) + (0 + (i : Nat))) = ((b + i : Nat) : Int) := by omega
      have plen := prt_len hs (.part n b rows) (b + i)
      have hc2 := (t2.now hc).tail
      obtain ⟨e2, o2'⟩ := o2.ex
      have ha2 := m2 _ _ ha trivial
      have ht2 := m2 _ _ ht trivial
      have hq2 := m2 _ _ hq trivial
      have hk2 : b + i < (prt hs (.part n b rows) (b + i)).length := by rw [plen]; exact hbi
      have au : atI (((prt hs (.part n b rows) (b + i)).map fun h => h.upto).map V.int) ((b : Int) + (0 + (i : Nat))) = some (V.int g.upto) := at_of (j := b + i) ez (by rw [List.getElem?_map, List.getElem?_map, eg2]; rfl)
      refine ⟨_, rfl, a, _, _, _, rfl, rfl, SqT.of ha2, rfl, _, rfl, _, _, rfl, rfl, ?_⟩
      refine ⟨_, rfl, O.r, _, rfl, o2'.gu hc2, _, rfl, O.l3, _, _, _, rfl, rfl, SqL.of (o2'.at3 hc2), au, _, rfl, a, _, _, _, rfl, rfl, SqT.of ha2, rfl, _, _, rfl, rfl, _, rfl, ite2 (fun h0 => ?_) fun h0 => ?_⟩
      · have h0' := of_decide_eq_true h0
        have eRow : g.row n rw'.1 rw'.2 = ({ g with worth := rw'.1, since := rw'.2, upto := n } : HK).free := by
          unfold HK.row
          rw [if_pos h0']
        generalize hgs : prt hs (.part n b rows) (b + i) = gs at *
        have ix1 : ixN (gs.map wv).length ((b : Int) + (0 + (i : Nat))) = some (b + i) := ixN_of ez (by rw [List.length_map]; exact hk2)
        have ix2 : ixN ((gs.map fun h => (h.since : Int)).map V.int).length ((b : Int) + (0 + (i : Nat))) = some (b + i) := ixN_of ez (by rw [List.length_map, List.length_map]; exact hk2)
        have ix3 : ixN ((gs.map fun h => h.upto).map V.int).length ((b : Int) + (0 + (i : Nat))) = some (b + i) := ixN_of ez (by rw [List.length_map, List.length_map]; exact hk2)
        have ax : atI xs ((0 : Int) + i) = some (.ref qq) := at_of (j := i) ez0 eq
        refine ⟨_, rfl, a, _, _, _, rfl, rfl, SqT.of ha2, rfl, _, rfl, t, _, _, _, rfl, rfl, SqT.of ht2, ax, qq, _, rfl, SqT.of hq2, rfl, _, _, rfl, _, rfl, O.r, _, rfl, o2'.gw hc2, _, rfl, _, _, _, _, rfl, rfl, o2'.at1 hc2, ix1, ?_⟩
        obtain ⟨c3, o3, t3⟩ := o2'.put1 hc2 ((gs.map wv).set (b + i) (.int rw'.1))
        have hc3 := t3.now hc2
        refine ⟨_, _, rfl, _, rfl, O.r, _, rfl, o3.gs hc3, _, rfl, _, _, _, _, rfl, rfl, o3.at2 hc3, ix2, rfl, ?_⟩
        rw [← List.map_set]
        obtain ⟨c4, o4, t4⟩ := o3.put2 hc3 ((gs.map fun h => (h.since : Int)).set (b + i) (rw'.2 : Int))
        have hc4 := t4.now hc3
        have ha4 := t4.mono _ _ (t3.mono _ _ ha2 trivial) trivial
        refine ⟨_, rfl, a, _, _, _, rfl, rfl, SqT.of ha4, rfl, _, rfl, O.r, _, rfl, o4.gu hc4, _, rfl, _, _, _, _, rfl, rfl, o4.at3 hc4, ix3, ?_⟩
        rw [← List.map_set]
        obtain ⟨c5, o5, t5⟩ := o4.put3 hc4 ((gs.map fun h => h.upto).set (b + i) (n : Int))
        have o5' : O3 K O (gs.set (b + i) { g with worth := rw'.1, since := rw'.2, upto := n }) as' _ c5 := ⟨e2, by
          have w1 := wv_set (g := { g with worth := rw'.1, since := rw'.2, upto := n }) eg2 (by show (0 : Int) ≤ n; omega)
          have w2 := ss_set (hs := gs) (k := b + i) (g := { g with worth := rw'.1, since := rw'.2, upto := n })
          have w3 := us_set (hs := gs) (k := b + i) (g := { g with worth := rw'.1, since := rw'.2, upto := n })
          rw [← w1, ← w2, ← w3]
          exact o5⟩
        have t6 := t2.trans (((t3.trans t4).trans t5).left (D := [(q, .lst ((fnd hs (.part n b rows) (b + i)).map V.int))]))
        have hh6 := t6.now hc
        have wfg : Wf ({ g with worth := rw'.1, since := rw'.2, upto := n } : HK) := ⟨(wf g (List.mem_of_getElem? eg)).nd, (wf g (List.mem_of_getElem? eg)).few⟩
        refine ⟨_, rfl, _, rfl, _, rfl, rfl, O, _, as', c5, cs, b + i, { g with worth := rw'.1, since := rw'.2, upto := n }, congrArg (fun z => [V.ref O.r, V.int z]) ez, o5', hh6.tail, ar2.set (g := { g with worth := rw'.1, since := rw'.2, upto := n }) eg2 rfl, hcl, List.getElem?_set_self hk2, fun p7 as7 c7 H7 o7 ar7 t7 => ?_⟩
        rw [List.set_set] at o7 ar7
        have t8 := t6.trans (t7.left (D := [(q, .lst ((fnd hs (.part n b rows) (b + i)).map V.int))]))
        have hh8 := t8.now hc
        refine ⟨q, p7, _, _, rfl, rfl, hh8.head, hh8.tail.head, ?_, fun q9 hq9 => ?_⟩
        · have := fnd_len (l := .part n b rows) (m := b + i) wf (by rw [ai.1]; exact hk8)
          have := free_len wfg
          rw [List.length_map, List.length_map]
          exact Nat.le_trans (show _ ≤ 2000 by omega) (by decide)
        · have t9 := t8.new (o := .lst ((fnd hs (.part n b rows) (b + i)).map V.int ++ ({ g with worth := rw'.1, since := rw'.2, upto := n } : HK).free.2.map V.int)) hq9 nl
          refine ⟨_, _, q9, as7, c7, rfl, (m2.trans ((t3.mono.trans t4.mono).trans t5.mono)).trans (t7.mono.trans (Mono.new hq9)), ?_, ?_, ?_⟩
          · rw [eP, eRow]
            exact o7.mono (Mono.new hq9)
          · rw [eP, eRow]
            exact ar7
          · rw [eF, eRow, List.map_append]
            exact t9.sub (List.Sublist.cons_cons _ (List.Sublist.cons _ (List.sublist_cons_self _ _)))
      · have h0' := ndec h0
        have eRow : g.row n rw'.1 rw'.2 = (g, []) := by
          unfold HK.row
          rw [if_neg h0']
        refine ⟨_, _, q, as', c', rfl, m2, ?_, ?_, ?_⟩
        · rw [eP, eRow, set_back eg2]
          exact o2
        · rw [eP, eRow, set_back eg2]
          exact ar2
        · rw [eF, eRow, List.append_nil]
          exact t2
    · rintro σ H2 ⟨v5, v9, q, as', c', rfl, m2, o2, ar2, t2⟩
      rw [Int.toNat_natCast, hxs, b1] at o2 ar2
      rw [Int.toNat_natCast, hxs, b2] at t2
      exact ⟨_, rfl, go q as' c' H2 o2 ar2 t2⟩
  | @beat n hn =>
    obtain ⟨a, t, rfl, ha, ht⟩ := rv1.beat_inv
    have hl : ((List.range nk).map fun k => lof (cs.take n) k).length = hs.length := let_ok (cs := cs) hck ai.1 (.beat hn)
    have hnk := ai.1
    unfold beatL at go
    generalize ((List.range nk).map fun k => lof (cs.take n) k) = lasts at *
    refine ⟨_, rfl, a, _, _, _, rfl, rfl, SqT.of ha, rfl, rfl, _, rfl, iteM (by decide +kernel) ⟨_, rfl, a, _, _, _, rfl, rfl, SqT.of ha, rfl, rfl, _, rfl, iteM (by decide +kernel) ?_⟩⟩
    refine ⟨_, rfl, a, _, _, _, rfl, rfl, SqT.of ha, rfl, t, _, rfl, .inr (SqT.of ht), _, rfl, by rw [List.length_map]; omega, by rw [List.length_map]; omega, ?_⟩
    refine for_range (lo := 0) (n := ((lasts.map fun k : Nat => V.int k).length : Int).toNat) (fun i σ H2 => ∃ (v5 : Option V) (c' : Lg), σ = [some (.ref O.r), some (.ref a), some (.ref p), none, none, v5, none, none, none, none] ∧
      Mono (upd H p (.lst [])) H2 ∧ O3 K O (prt hs (.beat n lasts) i) as H2 c' ∧ AsR cs (prt hs (.beat n lasts) i) as ∧ fnd hs (.beat n lasts) i = [] ∧ Tr H c H2 ((p, .lst []) :: c'))
      ⟨none, c, rfl, Mono.refl _, ?_, ?_, rfl, t1⟩ ?_ ?_
    · rw [(prt_low (hs := hs) (l := .beat n lasts) (b := 0) fun k g hk => absurd hk (Nat.not_lt_zero _)).1]
      exact o1
    · rw [(prt_low (hs := hs) (l := .beat n lasts) (b := 0) fun k g hk => absurd hk (Nat.not_lt_zero _)).1]
      exact ar
    · rintro i σ H2 hi ⟨v5, c', rfl, m2, o2, ar2, f2, t2⟩
      rw [List.length_map] at hi
      have hi' : i < hs.length := by omega
      obtain ⟨g, eg⟩ : ∃ g, hs[i]? = some g := ⟨hs[i], List.getElem?_eq_getElem hi'⟩
      obtain ⟨la, el⟩ : ∃ la, lasts[i]? = some la := ⟨lasts[i], List.getElem?_eq_getElem (by omega)⟩
      have eg2 : (prt hs (.beat n lasts) i)[i]? = some g := by rw [prt_get eg, if_neg (Nat.lt_irrefl _)]
      have eK : hearK i g (.beat n lasts) = (g.beat n la, []) := by
        simp only [hearK]
        rw [el]
      have eP : prt hs (.beat n lasts) (i + 1) = (prt hs (.beat n lasts) i).set i (g.beat n la) := by rw [prt_succ eg, eK]
      have eF : fnd hs (.beat n lasts) (i + 1) = [] := by rw [fnd_succ eg, eK, f2]; rfl
      have ez : ((0 : Int) + i) = (i : Int) := by omega
      have plen := prt_len hs (.beat n lasts) i
      have hc2 := (t2.now hc).tail
      have ha2 := m2 _ _ ha trivial
      have ht2 := m2 _ _ ht trivial
      obtain ⟨e2, o2'⟩ := o2.ex
      have hk2 : i < (prt hs (.beat n lasts) i).length := by rw [plen]; exact hi'
      have au : atI (((prt hs (.beat n lasts) i).map fun h => h.upto).map V.int) ((0 : Int) + i) = some (V.int g.upto) := at_of (j := i) ez (by rw [List.getElem?_map, List.getElem?_map, eg2]; rfl)
      have a4 : atI (lasts.map fun k : Nat => V.int k) ((0 : Int) + i) = some (V.int la) := at_of (j := i) ez (by rw [List.getElem?_map, el]; rfl)
      refine ⟨_, rfl, a, _, _, _, rfl, rfl, SqT.of ha2, rfl, _, rfl, t, _, _, _, rfl, rfl, SqT.of ht2, a4, _, rfl, O.r, _, rfl, o2'.gu hc2, _, rfl, O.l3, _, _, _, rfl, rfl, SqL.of (o2'.at3 hc2), au, _, _, rfl, rfl, _, rfl, ite2 (fun h0 => ?_) fun h0 => ?_⟩
      · have h0' : (la : Int) ≤ g.upto := of_decide_eq_true h0
        have eB : (g.beat n la).upto = (if (n : Int) > g.upto then (n : Int) else g.upto) ∧ (g.beat n la).worth = g.worth ∧ (g.beat n la).since = g.since ∧ (g.beat n la).aside = g.aside := by
          unfold HK.beat
          by_cases h1 : g.upto < (n : Int)
          · rw [if_pos ⟨h0', h1⟩, if_pos h1]
            exact ⟨rfl, rfl, rfl, rfl⟩
          · rw [if_neg fun q => h1 q.2, if_neg h1]
            exact ⟨rfl, rfl, rfl, rfl⟩
        have ix3 : ixN (((prt hs (.beat n lasts) i).map fun h => h.upto).map V.int).length ((0 : Int) + i) = some i := ixN_of ez (by rw [List.length_map, List.length_map]; exact hk2)
        refine ⟨_, rfl, O.r, _, rfl, o2'.gu hc2, _, rfl, O.l3, _, _, _, rfl, rfl, SqL.of (o2'.at3 hc2), au, _, rfl, a, _, _, _, rfl, rfl, SqT.of ha2, rfl, _, _, rfl, _, rfl, O.r, _, rfl, o2'.gu hc2, _, rfl, _, _, _, _, rfl, rfl, o2'.at3 hc2, ix3, ?_⟩
        rw [← eB.1, ← List.map_set]
        obtain ⟨c3, o3, t3⟩ := o2'.put3 hc2 (((prt hs (.beat n lasts) i).map fun h => h.upto).set i (g.beat n la).upto)
        refine ⟨_, c3, rfl, m2.trans t3.mono, ⟨e2, ?_⟩, ?_, eF, t2.trans (t3.left (D := [(p, .lst [])]))⟩
        · rw [eP]
          have q1 : ((prt hs (.beat n lasts) i).set i (g.beat n la)).map wv = (prt hs (.beat n lasts) i).map wv := map_set_same eg2 (by
            show (if (g.beat n la).upto < 0 then V.non else V.int (g.beat n la).worth) = (if g.upto < 0 then V.non else V.int g.worth)
            rw [eB.2.1, eB.1]
            have : ¬ g.upto < 0 := by omega
            rw [if_neg this, if_neg (by split <;> omega)])
          have q2 : ((prt hs (.beat n lasts) i).set i (g.beat n la)).map (fun h => (h.since : Int)) = (prt hs (.beat n lasts) i).map (fun h => (h.since : Int)) := map_set_same eg2 (by rw [eB.2.2.1])
          rw [q1, q2, ← us_set]
          exact o3
        · rw [eP]
          exact ar2.set eg2 eB.2.2.2
      · have h0' := ndec h0
        have eB : g.beat n la = g := by
          unfold HK.beat
          rw [if_neg fun q => h0' q.1]
        refine ⟨_, c', rfl, m2, ?_, ?_, eF, t2⟩
        · rw [eP, eB, set_back eg2]
          exact o2
        · rw [eP, eB, set_back eg2]
          exact ar2
    · rintro σ H2 ⟨v5, c', rfl, m2, o2, ar2, f2, t2⟩
      have hall : hs.length ≤ ((lasts.map fun k : Nat => V.int k).length : Int).toNat := by
        rw [List.length_map]
        omega
      rw [prt_all hall] at o2 ar2
      rw [fnd_all hall] at f2
      rw [f2] at go
      exact ⟨_, rfl, go p as c' H2 o2 ar2 t2⟩
end
end Cu

namespace Cu
open PySem PySem.Spec PyProof.Rows L2
abbrev s_hearer : Stmt := (top 18)
theorem sc_hearer : FnScope ["_law_keys"] ["_law_keys"] (defScope s_hearer) := ⟨rfl, rfl, rfl, by decide +kernel, rfl, by decide +kernel, by decide +kernel⟩

theorem rep_flat (nk : Nat) (x : V) : (List.replicate ((nk : Int).toNat) [x]).flatten = List.replicate nk x := by
  rw [Int.toNat_natCast]
  induction nk with
  | zero => rfl
  | succ n ih =>
    rw [List.replicate_succ, List.replicate_succ, List.flatten_cons, ih]
    rfl
def spO3new (K : PySem.W.Frag) : Sp := fun vs H Q _ => vs.length = 1 ∧ ∃ nk : Nat, vs = [.int nk] ∧ nk ≤ 8 ∧
  ∀ (O : OA) (c' : Lg) (H' : Hp), O3 K O (List.replicate nk HK.ini) [] H' c' → Tr H [] H' c' → Q (.ref O.r) H'
section
variable {P : Program} {w : World} {K : PySem.W.Frag} {mg : Str → Option Value} {base : Heap}
theorem ok_onew (F : Fd K mg "_law_hearer" s_hearer) (Bm : Blt mg) : Gf P w K mg base 1 "_law_hearer" ["_law_keys"] (spO3new K) := by
  refine F.ok sc_hearer (fun _ _ _ _ _ _ us hl => match us, hl with | [_], _ => rfl) len_of fun qual f cdv A0 outer s H vs Q E hr h => ?_
  obtain ⟨_, nk, rfl, hk8, go⟩ := h
  refine ⟨_, (pss_one (ps_ret (pe_disp (pps_cons pe_str (pe_op op_rep (pe_lst (pa_cons pe_non pa_nil)) (pv 0)) (pps_cons pe_str (pe_op op_rep (pe_lst (pa_cons pe_int pa_nil)) (pv 0)) (pps_cons pe_str (pe_op op_rep (pe_lst (pa_cons (pe_un un_neg pe_int) pa_nil)) (pv 0)) (pps_cons pe_str (pe_fz (pe_lst pa_nil)) pps_nil)))) (by rfl) (by rfl) (fun z => by cases z) (by decide)))), ?_⟩
  have z1 : 1 ≤ sizeLine := by decide
  have sz : 1 * (nk : Int).toNat ≤ sizeLine := by
    rw [Nat.one_mul, Int.toNat_natCast]
    exact Nat.le_trans hk8 (by decide)
  refine fun m hm => ?_
  have t1 := (Tr.refl H []).new (o := .dK []) hm ndk
  refine ⟨z1, fun g1 hg1 => ⟨_, rfl, g1, (nk : Int), _, rfl, rfl, upd_same, by omega, by omega, sz, fun l1 hl1 => ?_⟩⟩
  rw [rep_flat] at *
  have t2 := (t1.old (o := .lst [.non]) hg1).new (o := .lst (List.replicate nk V.non)) hl1 nl
  refine ⟨z1, fun g2 hg2 => ⟨_, rfl, g2, (nk : Int), _, rfl, rfl, upd_same, by omega, by omega, sz, fun l2 hl2 => ?_⟩⟩
  rw [rep_flat] at *
  have t3 := (t2.old (o := .lst [.int 0]) hg2).new (o := .lst (List.replicate nk (V.int 0))) hl2 nl
  refine ⟨_, rfl, z1, fun g3 hg3 => ⟨_, rfl, g3, (nk : Int), _, rfl, rfl, upd_same, by omega, by omega, sz, fun l3 hl3 => ?_⟩⟩
  rw [rep_flat] at *
  have t4 := (t3.old (o := .lst [.int (-1)]) hg3).new (o := .lst (List.replicate nk (V.int (-1)))) hl3 nl
  refine rd_fz ⟨by decide, fun l4 hl4 => ⟨l4, _, rfl, upd_same, fun ob => ?_⟩⟩
  have t5 := t4.nfz (xs := []) (ob := ob) hl4
  have hh := t5.own
  refine ⟨hh.tail.tail.tail.head, [(Sum.inr "worth", .ref l1), (Sum.inr "since", .ref l2), (Sum.inr "upto", .ref l3), (Sum.inr "aside", .ref l4)], rfl, (by show 4 ≤ 15; decide), ?_⟩
  have t6 := (t5.perm (C2 := [(m, HO.dK []), (l1, .lst (List.replicate nk V.non)), (l2, .lst (List.replicate nk (V.int 0))), (l3, .lst (List.replicate nk (V.int (-1))))]) (List.reverse_perm [(m, HO.dK []), (l1, .lst (List.replicate nk V.non)), (l2, .lst (List.replicate nk (V.int 0))), (l3, .lst (List.replicate nk (V.int (-1))))])).put (o' := .dK (rec3 ⟨m, l1, l2, l3⟩ l4)) .nil ndk
  refine go ⟨m, l1, l2, l3⟩ _ _ ⟨l4, ?_, [], FzL.frz.mono (Mono.put hh.tail.tail.tail.head ndk), .nil⟩ t6
  have e1 : (List.replicate nk HK.ini).map wv = List.replicate nk V.non := by
    rw [List.map_replicate]
    rfl
  have e2 : ((List.replicate nk HK.ini).map fun h => (h.since : Int)).map V.int = List.replicate nk (V.int 0) := by
    rw [List.map_replicate, List.map_replicate]
    rfl
  have e3 : ((List.replicate nk HK.ini).map fun h => h.upto).map V.int = List.replicate nk (V.int (-1)) := by
    rw [List.map_replicate, List.map_replicate]
    rfl
  unfold oObj
  rw [e1, e2, e3]
end
end Cu

namespace Cu
open PySem PySem.Spec PyProof.Rows L2
/-! how wide, how deep letters are -/
theorem cutV_to' {xs : List V} {k : Nat} : cutV xs none (some (k : Int)) = xs.take k := by
  unfold cutV
  rw [HT.sIx_none, HT.sIx_nat, List.drop_zero, Nat.sub_zero]
  by_cases h : k ≤ xs.length
  · rw [Nat.min_eq_left h]
  · rw [Nat.min_eq_right (by omega), List.take_of_length_le (Nat.le_refl _), List.take_of_length_le (by omega)]
theorem widAll_le {n : Nat} : ∀ {ds : List PyData}, (∀ d ∈ ds, wid d ≤ n) → widAll ds ≤ n
  | [], _ => by simp [widAll]
  | d :: ds, h => by
    rw [widAll]
    exact Nat.max_le.mpr ⟨h d List.mem_cons_self, widAll_le fun e he => h e (List.mem_cons_of_mem _ he)⟩
theorem wid_list {ds : List PyData} (h : ds.length ≤ 1000) (g : ∀ d ∈ ds, wid d ≤ 1000) : wid (.list ds) ≤ 1000 := by
  rw [wid]
  exact Nat.max_le.mpr ⟨h, widAll_le g⟩
theorem wid_tup {ds : List PyData} (h : ds.length ≤ 1000) (g : ∀ d ∈ ds, wid d ≤ 1000) : wid (.tuple ds) ≤ 1000 := by
  rw [wid]
  exact Nat.max_le.mpr ⟨h, widAll_le g⟩
theorem wid_ilst {ns : List Int} (h : ns.length ≤ 1000) : wid (ilst ns) ≤ 1000 := wid_list (by rw [List.length_map]; exact h) fun d hd => by
  obtain ⟨i, _, rfl⟩ := List.mem_map.mp hd
  simp [wid]
theorem Gd.chg1 {n ah : Nat} {c : Ch} : Gd 1 (Letter.enc (.change n c ah)) := .tuple (.all_cons (.str (by decide +kernel)) (.all_cons .int (.all_cons .int (.all_cons (.str (wd_ok _)) (.all_cons .int (.all_cons .int .all_nil))))))
theorem Gd.letter3 (l : Letter) : Gd 3 l.enc := by
  cases l with
  | change n c ahead => exact Gd.chg1.mono (by decide)
  | part n b rows =>
    refine .tuple (.all_cons (.str (by decide +kernel)) (.all_cons .int (.all_cons .int (.all_cons (.tuple fun d hd => ?_) .all_nil))))
    obtain ⟨r, _, rfl⟩ := List.mem_map.mp hd
    exact .tuple (.all_cons .int (.all_cons .int .all_nil))
  | beat n lasts =>
    refine .tuple (.all_cons (.str (by decide +kernel)) (.all_cons .int (.all_cons (.tuple fun d hd => ?_) .all_nil)))
    obtain ⟨r, _, rfl⟩ := List.mem_map.mp hd
    exact .int
theorem wid_part {n b : Nat} {rows : List (Int × Nat)} (h : rows.length ≤ 1000) : wid (Letter.enc (.part n b rows)) ≤ 1000 := wid_tup (by show 4 ≤ 1000; decide) fun d hd => by
  simp only [List.mem_cons, List.not_mem_nil, or_false] at hd
  rcases hd with rfl | rfl | rfl | rfl
  · simp [wid]
  · simp [wid]
  · simp [wid]
  · refine wid_tup (by rw [List.length_map]; exact h) fun d hd => ?_
    obtain ⟨r, _, rfl⟩ := List.mem_map.mp hd
    simp [wid, widAll]
theorem wid_beat {n : Nat} {lasts : List Nat} (h : lasts.length ≤ 1000) : wid (Letter.enc (.beat n lasts)) ≤ 1000 := wid_tup (by show 3 ≤ 1000; decide) fun d hd => by
  simp only [List.mem_cons, List.not_mem_nil, or_false] at hd
  rcases hd with rfl | rfl | rfl
  · simp [wid]
  · simp [wid]
  · refine wid_tup (by rw [List.length_map]; exact h) fun d hd => ?_
    obtain ⟨r, _, rfl⟩ := List.mem_map.mp hd
    simp [wid]
theorem wid_chg {n ah : Nat} {c : Ch} : wid (Letter.enc (.change n c ah)) ≤ 1000 := by simp [Letter.enc, wid, widAll]
end Cu

namespace Cu
open PySem PySem.Spec PyProof.Rows L2
abbrev s_is : Stmt := (top 22)
theorem sc_is : FnScope ["_law_hearer_here", "_law_h", "_law_due", "_law_key", "_law_number", "_law_whole", "_law_letter_here"] ["_law_hearer_here", "_law_h"] (defScope s_is) := ⟨rfl, rfl, rfl, by decide +kernel, rfl, by decide +kernel, by decide +kernel⟩

def spO3is (K : PySem.W.Frag) (C : Addr) : Sp := fun vs H Q _ => vs.length = 2 ∧ ∃ (A : HA) (O : OA) (hs : List HK) (as : List Letter) (c co : Lg) (nk : Nat) (cs : List Ch), vs = [.ref A.p, .ref O.r] ∧ HR K C A hs H c ∧ O3 K O hs as H co ∧ Has H (c ++ co) ∧ AsR cs hs as ∧ AllI nk cs hs ∧ 0 < nk ∧ nk ≤ 8 ∧ cs.length ≤ 100 ∧
  ∀ H', Grow H H' → Q (.bl true) H'
theorem Tr.onto {H H1 H2 : Hp} {C C1 O : Lg} (t : Tr H C H1 C1) (u : Tr H1 [] H2 O) : Tr H C H2 (O ++ C1) := t.trans (by simpa using u.right (D := C1))
theorem wid_int {i : Int} : wid (.int i) ≤ 1000 := by simp [wid]
theorem wid_none : wid .none ≤ 1000 := by simp [wid]
theorem wid_look (h : HK) : wid (lookM h) ≤ 1000 := by
  unfold lookM
  split
  · exact wid_none
  · exact wid_tup (by show 3 ≤ 1000; decide) fun d hd => by
      simp only [List.mem_cons, List.not_mem_nil, or_false] at hd
      rcases hd with rfl | rfl | rfl <;> exact wid_int
theorem wid_looks {hs : List HK} (h : hs.length ≤ 8) : wid (.list (hs.map lookM)) ≤ 1000 := wid_list (by rw [List.length_map]; omega) fun d hd => by
  obtain ⟨g, _, rfl⟩ := List.mem_map.mp hd
  exact wid_look g
theorem Gd.looks (hs : List HK) : Gd 3 (.list (hs.map lookM)) := .list fun d hd => by
  obtain ⟨h, _, rfl⟩ := List.mem_map.mp hd
  exact .look h
theorem wv_pos {hs : List HK} {m : Int} (h0 : 0 ≤ m) (h : ∀ y ∈ hs.map (fun h => h.upto), m ≤ y) : hs.map wv = (hs.map fun h => h.worth).map V.int := by
  rw [List.map_map]
  apply List.map_congr_left
  intro g hg
  have := h g.upto (List.mem_map.mpr ⟨g, hg, rfl⟩)
  show wv g = V.int g.worth
  rw [wv, if_neg (by omega)]
section
variable {P : Program} {w : World} {K : PySem.W.Frag} {mg : Str → Option Value} {base : Heap} {C : Addr}
theorem ok_ois (F : Fd K mg "_law_is" s_is) (Bm : Blt mg) (CHearer : CHr K C) (g_like : Gf P w K mg base 4 "_law_like" ["_law_found", "_law_due"] (spLike K 4)) (m_Hearer_look : Mf P w K mg base 1 C "look" ["self", "key"] (spLook K C)) (m_Hearer_known : Mf P w K mg base 1 C "known" ["self"] (spKnown K C))
    (m_Hearer_held : Mf P w K mg base 1 C "held" ["self"] (spHeld K C)) (m_Hearer_whole : Mf P w K mg base 1 C "whole" ["self"] (spWhole K C)) : Gf P w K mg base 5 "_law_is" ["_law_hearer_here", "_law_h"] (spO3is K C) := by
  refine F.ok sc_is (fun _ _ _ _ _ _ us hl => match us, hl with | [_, _], _ => rfl) len_of fun qual f cdv A0 outer s H vs Q E hr h => ?_
  obtain ⟨_, A, O, hs, as, c, co, nk, cs, rfl, r, o, hcc, ar, ai, hk, hk8, hcl, go⟩ := h
  refine ⟨_, (pss_cons (ps_set (i := 2) sc_is.nd rfl (Or.inl rfl) (pe_lst pa_nil))
      (pss_cons (ps_for PassesOwn.never rfl (pi_range1 rfl Bm.range (pa_cons (pe_callB call_len_seq rfl Bm.len (by decide +kernel) (pa_cons (pe_dget (hu_of hr) (pv 1) pe_str (fun _ _ => rfl)) pa_nil)) pa_nil)) (pg_name (i := 3) sc_is.nd rfl (Or.inl rfl))
        (pss_one (ps_expr (pe_bm PySem.F.plainAttrs_list PySem.F.slot_list_append PySem.F.type_list_append mt_append (pv 2) (pa_cons (pe_ifExp (pt_cmpR op_lt (pe_ix ix_list (pe_dget (hu_of hr) (pv 1) pe_str (fun _ _ => rfl)) (pv 3) (fun _ _ => rfl)) pe_int (nomark _)) pe_non (pe_tup (pa_cons (pe_ix ix_list (pe_dget (hu_of hr) (pv 1) pe_str (fun _ _ => rfl)) (pv 3) (fun _ _ => rfl)) (pa_cons (pe_ix ix_list (pe_dget (hu_of hr) (pv 1) pe_str (fun _ _ => rfl)) (pv 3) (fun _ _ => rfl)) (pa_cons (pe_ix ix_list (pe_dget (hu_of hr) (pv 1) pe_str (fun _ _ => rfl)) (pv 3) (fun _ _ => rfl)) pa_nil))))) pa_nil)))))
      (pss_cons (ps_if (pt_not (pt_val (pc g_like hr (pa_cons (pe_lc (own := [("_law_key", 3)]) (g := (gName 3)) (tt := tYes) rfl sc_is.nd (pi_range1 rfl Bm.range (pa_cons (pe_callB call_len_seq rfl Bm.len (by decide +kernel) (pa_cons (pv 2) pa_nil)) pa_nil)) (blkOk_by (N := ["_law_hearer_here", "_law_h", "_law_due", "_law_key", "_law_number", "_law_whole", "_law_letter_here"]) (sc := defScope s_is) (by decide +kernel)) (fun _ _ _ _ _ => (pg_name (i := 3) sc_is.nd rfl (Or.inl rfl))) (fun _ _ _ _ _ => pts_nil) (fun _ _ _ _ _ => (pm (pv 0) CHearer.cl m_Hearer_look hr (pa_cons (pv 3) pa_nil)))) (pa_cons (pv 2) pa_nil)))))
        (pss_one (ps_ret pe_bl))
        pss_nil)
      (pss_cons (ps_if (pt_not (pt_val (pc g_like hr (pa_cons (pe_lst (pa_cons (pm0 (pv 0) CHearer.cl m_Hearer_known hr) (pa_cons (pm0 (pv 0) CHearer.cl m_Hearer_held hr) pa_nil))) (pa_cons (pe_lst (pa_cons (pe_dget (hu_of hr) (pv 1) pe_str (fun _ _ => rfl)) (pa_cons (pe_callB cr_sortedI rfl Bm.sorted (by decide +kernel) (pa_cons (pe_lc (own := [("_law_letter_here", 6)]) (g := (gName 6)) (tt := tYes) rfl sc_is.nd (pi_list (pe_dget (hu_of hr) (pv 1) pe_str (fun _ _ => rfl))) (blkOk_by (N := ["_law_hearer_here", "_law_h", "_law_due", "_law_key", "_law_number", "_law_whole", "_law_letter_here"]) (sc := defScope s_is) (by decide +kernel)) (fun _ _ _ _ _ => (pg_name (i := 6) sc_is.nd rfl (Or.inl rfl))) (fun _ _ _ _ _ => pts_nil) (fun _ _ _ _ _ => (pe_ix (ix_tupK K rfl) (pv 6) pe_int (fun _ _ => rfl)))) pa_nil)) pa_nil))) pa_nil)))))
        (pss_one (ps_ret pe_bl))
        pss_nil)
      (pss_cons (ps_set (i := 4) sc_is.nd rfl (Or.inl rfl) (pe_callB (cr_min rfl) rfl Bm.min (by decide +kernel) (pa_cons (pe_dget (hu_of hr) (pv 1) pe_str (fun _ _ => rfl)) pa_nil)))
      (pss_cons (ps_mid (ps_set (i := 5) sc_is.nd rfl (Or.inl rfl) (pe_ifExp (PW.pt (pw_and (pt_cmpR op_ge (pv 4) pe_int (nomark _)) (pw_and1 (pt_cmpR op_ge (pv 4) (pe_callB (cr_max rfl) rfl Bm.max (by decide +kernel) (pa_cons (pe_dget (hu_of hr) (pv 1) pe_str (fun _ _ => rfl)) pa_nil)) (nomark _))))) (pe_tup (pa_cons (pv 4) (pa_cons (pe_dget (hu_of hr) (pv 1) pe_str (fun _ _ => rfl)) pa_nil))) pe_non)))
      (pss_one (ps_ret (pc g_like hr (pa_cons (pm0 (pv 0) CHearer.cl m_Hearer_whole hr) (pa_cons (pv 5) pa_nil))))))))))), ?_⟩
  have z0 : 0 ≤ sizeLine := by decide
  have hnk := ai.1
  obtain ⟨e, o⟩ := o.ex
  have up : ∀ {H2 : Hp} {X : Lg}, Tr H [] H2 X → Has H2 c ∧ HR K C A hs H2 c ∧ Has H2 co ∧ O3r K O e (hs.map wv) (hs.map fun h => (h.since : Int)) (hs.map fun h => h.upto) as H2 co := fun t => ⟨(t.has _ hcc).right.left, r.mono t.mono, (t.has _ hcc).right.right, o.mono t.mono⟩
  refine ⟨z0, fun p hp => ?_⟩
  have t1 := (Tr.refl H []).new (o := .lst []) hp nl
  obtain ⟨a1, a2, a3, a4⟩ := up t1
  refine ⟨_, rfl, O.r, _, rfl, a4.gu a3, O.l3, _, rfl, .inl (SqL.of (a4.at3 a3)), _, rfl, by simp only [List.length_map]; omega, by simp only [List.length_map]; omega, ?_⟩
  refine for_range (lo := 0) (n := (((hs.map fun h => h.upto).map V.int).length : Int).toNat) (fun i σ H2 => ∃ (v3 : Option V) (ys : List V), σ = [some (.ref A.p), some (.ref O.r), some (.ref p), v3, none, none, none] ∧ Tr H [] H2 [(p, .lst ys)] ∧ RpL K H2 ((hs.take i).map lookM) ys)
    ⟨none, [], rfl, t1, .nil⟩ ?_ ?_
  · rintro i σ H2 hi ⟨v3, ys, rfl, t2, ry⟩
    simp only [List.length_map] at hi
    have hi' : i < hs.length := by omega
    have ez : ((0 : Int) + i) = (i : Int) := by omega
    obtain ⟨h, eh⟩ : ∃ h, hs[i]? = some h := ⟨hs[i], List.getElem?_eq_getElem hi'⟩
    obtain ⟨b1, b2, b3, b4⟩ := up t2
    have au : atI ((hs.map fun h => h.upto).map V.int) ((0 : Int) + i) = some (V.int h.upto) := at_of (j := i) ez (by rw [List.getElem?_map, List.getElem?_map, eh]; rfl)
    have as_ : atI ((hs.map fun h => (h.since : Int)).map V.int) ((0 : Int) + i) = some (V.int h.since) := at_of (j := i) ez (by rw [List.getElem?_map, List.getElem?_map, eh]; rfl)
    have hy : ys.length = i := by rw [ry.length, List.length_map, List.length_take]; omega
    refine ⟨_, rfl, .inl ⟨rfl, _, SqL.of t2.own.head⟩, _, rfl, O.r, _, rfl, b4.gu b3, _, rfl, O.l3, _, _, _, rfl, rfl, SqL.of (b4.at3 b3), au, _, _, rfl, rfl, _, rfl, ?_⟩
    by_cases h0 : h.upto < 0
    · refine iteP (decide_eq_true h0) ⟨_, _, _, rfl, rfl, t2.own.head, small1000 (by omega), ?_⟩
      refine ⟨_, ys ++ [.non], rfl, t2.put .nil nl, ?_⟩
      rw [take_snoc eh, List.map_append]
      refine (ry.mono t2.own.mono_put).snoc ?_
      rw [lookM, if_pos h0]
      exact .non
    · have aw : atI (hs.map wv) ((0 : Int) + i) = some (V.int h.worth) := at_of (j := i) ez (by rw [List.getElem?_map, eh]; show some (wv h) = _; rw [wv, if_neg h0])
      refine iteM (by simpa using h0) ⟨_, rfl, O.r, _, rfl, b4.gw b3, _, rfl, O.l1, _, _, _, rfl, rfl, SqL.of (b4.at1 b3), aw, _, rfl, O.r, _, rfl, b4.gs b3, _, rfl, O.l2, _, _, _, rfl, rfl, SqL.of (b4.at2 b3), as_, _, rfl, O.r, _, rfl, b4.gu b3, _, rfl, O.l3, _, _, _, rfl, rfl, SqL.of (b4.at3 b3), au, (by show 3 ≤ sizeLine; decide), fun t ht => ?_⟩
      obtain ⟨s3, r3⟩ := snoc_tup (K := K) (ds := [.int h.worth, .int h.since, .int h.upto]) t2.own ht (.cons .int (.cons .int (.cons .int .nil)))
      refine ⟨_, _, _, rfl, rfl, by rw [upd_ne (ne_of_none t2.own.head ht)]; exact t2.own.head, small1000 (by omega), ?_⟩
      refine ⟨_, ys ++ [.ref t], rfl, t2.trans s3, ?_⟩
      rw [take_snoc eh, List.map_append]
      refine (ry.mono s3.mono).snoc ?_
      rw [lookM, if_neg h0]
      exact r3
  rintro σ H2 ⟨v3, ys, rfl, t2, ry⟩
  rw [List.take_of_length_le (by simp only [List.length_map]; omega)] at ry
  have hy : ys.length = hs.length := by rw [ry.length, List.length_map]
  -- like([hearer.look(key) for key in range(len(due))], due)
  refine ⟨_, rfl, p, _, rfl, .inl (SqL.of t2.own.head), _, rfl, by omega, by omega, fun D hD => ?_⟩
  refine lc_range (lo := 0) (n := ((ys.length : Nat) : Int).toNat) (fun i H3 => ∃ zs, Tr H [] H3 ((D, .lst zs) :: [(p, .lst ys)]) ∧ Mono H2 H3 ∧ RpL K H3 ((hs.take i).map lookM) zs) ⟨[], t2.new hD nl, Mono.new hD, .nil⟩ ?_ ?_
  · rintro i H3 hi ⟨zs, t3, m3, rz⟩
    have hi' : i < hs.length := by omega
    obtain ⟨h, eh⟩ : ∃ h, hs[i]? = some h := ⟨hs[i], List.getElem?_eq_getElem hi'⟩
    obtain ⟨b1, b2, b3, b4⟩ := up t3
    refine ⟨rfl, ?_⟩
    refine rd_look (k := i) (by rfl) b2 b1 (by rfl) (by omega) eh fun v H4 g4 rv => ?_
    have t4 := t3.grow g4
    have hz : zs.length = i := by rw [rz.length, List.length_map, List.length_take]; omega
    refine ⟨zs, t4.own.head, small1000 (by omega), zs ++ [v], t4.put .nil nl, (m3.trans g4.mono).trans t4.own.mono_put, ?_⟩
    rw [take_snoc eh, List.map_append]
    exact ((rz.mono g4.mono).snoc rv).mono t4.own.mono_put
  rintro H3 ⟨zs, t3, m3, rz⟩
  rw [List.take_of_length_le (by omega)] at rz
  have gl := Gd.looks hs
  refine ⟨_, rfl, rfl, _, _, _, rfl, .lst (SqL.of t3.own.head) rz.dp, .lst (SqL.of t3.own.tail.head) (ry.mono m3).dp, gl.1, Nat.lt_succ_of_le gl.2, wid_looks (by omega), _, rfl, iteM (by decide) ?_⟩
  -- like([known, held], [upto, sorted(..)])
  obtain ⟨b1, b2, b3, b4⟩ := up t3
  have hheld := ai.held (by omega) hk8
  have hheldl : (heldM hs).length ≤ 1000 := by
    unfold heldM
    rw [(srt_perm _).length_eq]
    exact hheld
  refine ⟨_, rfl, A.p, _, _, rfl, b2.at_p b1, hFno, rfl, A, hs, c, rfl, b2, b1, fun r4 H4 t4 => ?_⟩
  have t4' := t3.onto t4
  obtain ⟨b1, b2, b3, b4⟩ := up t4'
  refine ⟨_, rfl, A.p, _, _, rfl, b2.at_p b1, hFno, rfl, A, hs, c, rfl, b2, b1, hheld, fun r5 H5 t5 => ⟨(by show 2 ≤ sizeLine; decide), fun l6 hl6 => ?_⟩⟩
  have t5' := t4'.onto t5
  have t6 := t5'.new (o := .lst [.ref r4, .ref r5]) hl6 nl
  obtain ⟨b1, b2, b3, b4⟩ := up t6
  obtain ⟨xs, fx, rx⟩ := b4.as_
  have hxl : xs.length = as.length := by rw [rx.length, List.length_map]
  have hfew := ar.few
  refine ⟨_, rfl, O.r, _, rfl, b4.gu b3, _, rfl, O.r, _, rfl, b4.ga b3, e, rfl, ⟨_, fx.sq⟩, fun D2 hD2 => ?_⟩
  refine lc_list (K := K) (a := e) (xs := xs) (fun i H7 => Tr H [] H7 ((D2, .lst (((as.take i).map fun l => (numL l : Int)).map V.int)) :: (l6, .lst [.ref r4, .ref r5]) :: (r5, .lst ((heldM hs).map V.int)) :: (r4, .lst ((hs.map fun h => h.upto).map V.int)) :: [(D, HO.lst zs), (p, .lst ys)]) ∧ Mono (upd H5 l6 (.lst [.ref r4, .ref r5])) H7)
    ⟨t6.new hD2 nl, Mono.new hD2⟩ (fun i H7 _ ⟨_, m⟩ => (fx.mono m).sq) ?_ ?_
  · rintro i x H7 hi ⟨t7, m7⟩
    have hi' : i < as.length := by
      have := (List.getElem?_eq_some_iff.mp hi).1
      omega
    obtain ⟨l, el⟩ : ∃ l, as[i]? = some l := ⟨as[i], List.getElem?_eq_getElem hi'⟩
    obtain ⟨x', ex, rxl⟩ := (rx.mono m7).get (i := i) (d := l.enc) (by rw [List.getElem?_map, el]; rfl)
    rw [hi] at ex
    cases ex
    obtain ⟨m, ch, ec, rfl⟩ := (ar.in_ l (List.mem_of_getElem? el)).1
    obtain ⟨a, rfl, ha⟩ := rxl.chg_inv
    refine ⟨rfl, _, rfl, a, _, _, _, rfl, rfl, SqT.of ha, rfl, _, t7.own.head, ?_, ?_⟩
    · rw [List.length_map, List.length_map, List.length_take]
      exact small1000 (by omega)
    · rw [take_snoc el, List.map_append, List.map_append]
      exact ⟨t7.put .nil nl, m7.trans t7.own.mono_put⟩
  rintro H7 ⟨t7, m7⟩
  rw [hxl, List.take_length] at t7
  refine ⟨D2, _, rfl, SqL.of t7.own.head, fun ms q hperm hsort hq => ?_⟩
  have ems : ms = heldM hs := (srt_eq hperm hsort).trans (ar.held ai)
  subst ems
  refine ⟨(by show 2 ≤ sizeLine; decide), fun l8 hl8 => ?_⟩
  have t8 := (t7.new (o := .lst ((heldM hs).map V.int)) hq nl).new (o := .lst [.ref O.l3, .ref q]) hl8 nl
  obtain ⟨b1, b2, b3, b4⟩ := up t8
  have hh := t8.own
  have gd : Gd 2 (.list [ilst (hs.map fun h => h.upto), ilst (heldM hs)]) := .list (.all_cons (.ilst _) (.all_cons (.ilst _) .all_nil))
  refine ⟨rfl, .list [ilst (hs.map fun h => h.upto), ilst (heldM hs)], _, _, rfl, .lst (SqL.of hh.tail.tail.tail.head) (.cons (Dp.ints' hh.tail.tail.tail.tail.tail.head) (.cons (Dp.ints' hh.tail.tail.tail.tail.head) .nil)), .lst (SqL.of hh.head) (.cons (Dp.ints' (b4.at3 b3)) (.cons (Dp.ints' hh.tail.head) .nil)), gd.1, (by have := gd.2; omega), ?_, _, rfl, iteM (by decide) ?_⟩
  · refine wid_list (by show 2 ≤ 1000; decide) fun d hd => ?_
    simp only [List.mem_cons, List.not_mem_nil, or_false] at hd
    rcases hd with rfl | rfl
    · exact wid_ilst (by rw [List.length_map]; omega)
    · exact wid_ilst hheldl
  generalize upd (upd H7 q (.lst ((heldM hs).map V.int))) l8 (.lst [.ref O.l3, .ref q]) = H8 at *
  have g8 : Grow H H8 := t8.sub (List.nil_sublist _)
  -- number, whole
  refine ⟨_, rfl, O.r, _, rfl, b4.gu b3, O.l3, _, rfl, SqL.of (b4.at3 b3), by rw [List.length_map]; omega, fun m m1 m2 => ?_⟩
  have em : minU hs = m := by
    rw [minU, List.min?_eq_some_iff.mpr ⟨m1, m2⟩]
    rfl
  refine rd_mid (fun σ' H' => ∃ w5, σ' = [some (.ref A.p), some (.ref O.r), some (.ref p), v3, some (.int m), some w5, none] ∧ Grow H8 H' ∧ ((wholeM hs = none ∧ w5 = .non) ∨ ∃ t, w5 = .ref t ∧ H' t = some (.tup [.int m, .ref O.l1]) ∧ wholeM hs = some (m, hs.map fun h => h.worth) ∧ hs.map wv = (hs.map fun h => h.worth).map V.int)) ?_ ?_
  · refine ⟨_, rfl, _, _, rfl, rfl, _, rfl, ite2 (fun h0 => ?_) fun h0 => ?_⟩
    · have h0' : 0 ≤ m := of_decide_eq_true h0
      refine ⟨_, rfl, _, rfl, O.r, _, rfl, b4.gs b3, O.l2, _, rfl, SqL.of (b4.at2 b3), by rw [List.length_map]; omega, fun g g1 g2 => ?_⟩
      have eg : maxS hs = g := by
        rw [maxS, List.max?_eq_some_iff.mpr ⟨g1, g2⟩]
        rfl
      refine ⟨_, _, rfl, rfl, _, rfl, ite2 (fun h1 => ?_) fun h1 => ?_⟩
      · have h1' : g ≤ m := of_decide_eq_true h1
        refine ⟨_, rfl, _, rfl, O.r, _, rfl, b4.gw b3, (by show 2 ≤ sizeLine; decide), fun t ht => ?_⟩
        refine ⟨_, rfl, Grow.new ht, .inr ⟨t, rfl, upd_same, ?_, wv_pos h0' m2⟩⟩
        rw [wholeM, em, eg, if_neg (by omega), if_pos h0']
      · have h1' : ¬ g ≤ m := ndec h1
        refine ⟨_, rfl, Grow.refl _, .inl ⟨?_, rfl⟩⟩
        rw [wholeM, em, eg, if_pos (by omega)]
    · have h0' : ¬ 0 ≤ m := ndec h0
      refine iteM (by decide) ⟨_, rfl, Grow.refl _, .inl ⟨?_, rfl⟩⟩
      rw [wholeM, em, if_neg h0']
      split <;> rfl
  rintro _ H9 ⟨w5, rfl, g9, hw5⟩
  have g89 := g8.trans g9
  obtain ⟨b1, b2, b3, b4⟩ := up g89
  refine ⟨_, rfl, A.p, _, _, rfl, b2.at_p b1, hFno, rfl, A, hs, c, rfl, b2, b1, by omega, fun hw => ?_, fun n ws hw rr t H' t8 ht => ?_⟩
  · rcases hw5 with ⟨_, rfl⟩ | ⟨t, _, _, q, _⟩
    · exact ⟨_, rfl, rfl, .none, _, _, rfl, .non, .non, (Gd.none (n := 0)).1, by simp [PyData.depth], wid_none, go _ g89⟩
    · rw [hw] at q
      cases q
  · rcases hw5 with ⟨q, _⟩ | ⟨t5, rfl, ht5, q, ew⟩
    · rw [hw] at q
      cases q
    · rw [hw] at q
      cases q
      have t9 := g89.trans t8
      obtain ⟨b1, b2, b3, b4⟩ := up t9
      have gd : Gd 2 (.tuple [.int m, ilst (hs.map fun h => h.worth)]) := .tuple (.all_cons .int (.all_cons (.ilst _) .all_nil))
      have a1 := b4.at1 b3
      rw [ew] at a1
      refine ⟨_, rfl, rfl, .tuple [.int m, ilst (hs.map fun h => h.worth)], _, _, rfl, .tup (SqT.of ht) (.cons (.int _) (.cons (Dp.ints' t8.own.head) .nil)), .tup (SqT.of (t8.mono _ _ ht5 trivial)) (.cons (.int _) (.cons (Dp.ints' a1) .nil)), gd.1, (by have := gd.2; omega), ?_, go _ (t9.sub (List.nil_sublist _))⟩
      refine wid_tup (by show 2 ≤ 1000; decide) fun d hd => ?_
      simp only [List.mem_cons, List.not_mem_nil, or_false] at hd
      rcases hd with rfl | rfl
      · exact wid_int
      · exact wid_ilst (by rw [List.length_map]; omega)
end
end Cu

namespace Cu
open PySem PySem.Spec PyProof.Rows L2
abbrev s_law : Stmt := (top 23)
theorem sc_law : FnScope ["_law_script", "_law_d", "_law_keys", "_law_rows", "_law_letters", "_law_sides", "_law_turn", "_law_hearer_here", "_law_h", "_law_letter_here", "_law_found", "_law_some", "_law_one", "_law_other"] ["_law_script"] (defScope s_law) := ⟨rfl, rfl, rfl, by decide +kernel, rfl, by decide +kernel, by decide +kernel⟩

theorem flat_at {α : Type} : ∀ {cks : List (List α)} {j : Nat} {c : List α}, cks[j]? = some c → cks.flatten.Perm (c ++ (cks.eraseIdx j).flatten)
  | [], _, _, e => by simp at e
  | x :: xs, 0, c, e => by
    have e : x = c := by simpa using e
    subst e
    exact List.Perm.refl _
  | x :: xs, j + 1, c, e => by
    have ih := flat_at (cks := xs) (j := j) (c := c) (by simpa using e)
    rw [List.flatten_cons, List.eraseIdx_cons_succ, List.flatten_cons, ← List.append_assoc]
    refine (List.Perm.append_left x ih).trans ?_
    rw [← List.append_assoc]
    exact List.Perm.append_right _ List.perm_append_comm
theorem flat_set {α : Type} {cks : List (List α)} {j : Nat} {c c' : List α} (e : cks[j]? = some c) : (cks.set j c').flatten.Perm (c' ++ (cks.eraseIdx j).flatten) := by
  have h := flat_at (cks := cks.set j c') (j := j) (c := c') (List.getElem?_set_self (List.getElem?_eq_some_iff.mp e).1)
  rwa [List.eraseIdx_set_eq] at h
/-! a side: a hearer and an own one -/
structure Sd where
  A : HA
  O : OA
  hs : List HK
  as : List Letter
  k : Lg
  co : Lg
  t : Addr
def kS (S : List Sd) : Lg := (S.map fun s => s.k ++ s.co).flatten
def rS (S : List Sd) (j : Nat) : Lg := ((S.map fun s => s.k ++ s.co).eraseIdx j).flatten
structure SdOk (K : PySem.W.Frag) (C : Addr) (nk : Nat) (cs : List Ch) (H : Hp) (s : Sd) : Prop where
  r : HR K C s.A s.hs H s.k
  o : O3 K s.O s.hs s.as H s.co
  ai : AllI nk cs s.hs
  ar : AsR cs s.hs s.as
  t : H s.t = some (.tup [.ref s.A.p, .ref s.O.r])
theorem SdOk.mono {K : PySem.W.Frag} {C : Addr} {nk : Nat} {cs : List Ch} {H H' : Hp} {s : Sd} (h : SdOk K C nk cs H s) (m : Mono H H') : SdOk K C nk cs H' s := ⟨h.r.mono m, h.o.mono m, h.ai, h.ar, m _ _ h.t trivial⟩
section
variable {K : PySem.W.Frag} {C : Addr} {nk : Nat} {cs : List Ch} {S : List Sd} {H H' : Hp} {j : Nat} {sd sd' : Sd} {R : Lg} {t1 t2 a : Addr}
theorem kS_at (e : S[j]? = some sd) : (kS S ++ R).Perm (sd.k ++ (sd.co ++ (rS S j ++ R))) := by
  rw [← List.append_assoc, ← List.append_assoc]
  exact List.Perm.append_right R (flat_at (c := sd.k ++ sd.co) (by rw [List.getElem?_map, e]; rfl))
theorem kS_set (e : S[j]? = some sd) : (sd'.k ++ (sd'.co ++ (rS S j ++ R))).Perm (kS (S.set j sd') ++ R) := by
  rw [← List.append_assoc, ← List.append_assoc]
  refine List.Perm.append_right R ?_
  unfold kS
  rw [List.map_set]
  exact (flat_set (c := sd.k ++ sd.co) (by rw [List.getElem?_map, e]; rfl)).symm
theorem two_get {x : V} (h : S.map Sd.t = [t1, t2]) (e : [V.ref t1, .ref t2][j]? = some x) : ∃ sd, S[j]? = some sd ∧ x = .ref sd.t := by
  have e2 : [V.ref t1, .ref t2] = S.map fun sd => V.ref sd.t := by
    have : (S.map Sd.t).map V.ref = [V.ref t1, .ref t2] := by rw [h]; rfl
    rw [← this, List.map_map]
    rfl
  rw [e2, List.getElem?_map] at e
  cases es : S[j]? with
  | none =>
    rw [es] at e
    cases e
  | some sd =>
    rw [es] at e
    exact ⟨sd, rfl, (Option.some.inj e).symm⟩
theorem two_set (h : S.map Sd.t = [t1, t2]) (e : S[j]? = some sd) (q : sd'.t = sd.t) : (S.set j sd').map Sd.t = [t1, t2] := by
  rw [List.map_set, q, ← h]
  apply List.ext_getElem?
  intro i
  by_cases hi : j = i
  · subst hi
    rw [List.getElem?_set_self (by rw [List.length_map]; exact (List.getElem?_eq_some_iff.mp e).1), List.getElem?_map, e]
    rfl
  · rw [List.getElem?_set_ne hi]
end
section
variable {P : Program} {w : World} {K : PySem.W.Frag} {mg : Str → Option Value} {base : Heap} {C : Addr}
theorem ok_law {f : Addr} {fd : FuncData} (F : Fun K "law" "law" s_law f fd) (Bm : Blt mg) (CHearer : CHr K C) (g_dice : Gf P w K mg base 1 "_law_dice" ["_law_script"] (spDice K)) (g_next : Gf P w K mg base 1 "_law_next" ["_law_dice_here", "_law_many"] (spNext K))
    (g_counts : Gf P w K mg base 2 "_law_counts" ["_law_d"] (spCounts K)) (g_changes : Gf P w K mg base 3 "_law_changes" ["_law_d", "_law_keys", "_law_most"] (spChanges K)) (g_story : Gf P w K mg base 1 "_law_story" ["_law_keys", "_law_changes_here"] (spStory K)) (g_letter : Gf P w K mg base 2 "_law_letter" ["_law_d", "_law_keys", "_law_rows", "_law_letters"] (spLetter1 K))
    (g_hearer : Gf P w K mg base 1 "_law_hearer" ["_law_keys"] (spO3new K)) (g_hear : Gf P w K mg base 3 "_law_hear" ["_law_h", "_law_letter_here"] (spO3hear K)) (g_is : Gf P w K mg base 5 "_law_is" ["_law_hearer_here", "_law_h"] (spO3is K C)) (g_like : Gf P w K mg base 4 "_law_like" ["_law_found", "_law_due"] (spLike K 4))
    (k_Hearer : Kf P w K mg base 1 "Hearer" C ["self", "keys"] (spHinit K C)) (m_Hearer_hear : Mf P w K mg base 4 C "hear" ["self", "letter"] (spHear K C)) (m_Hearer_held : Mf P w K mg base 1 C "held" ["self"] (spHeld K C)) (m_Hearer_known : Mf P w K mg base 1 C "known" ["self"] (spKnown K C))
    (m_Hearer_whole : Mf P w K mg base 1 C "whole" ["self"] (spWhole K C)) : FnOk P w K mg base CX0 6 f fd ["_law_script"] (spLaw K) := by
  refine F.ok sc_law len_of fun cdv A0 outer s H vs Q E hr h => ?_
  obtain ⟨_, c, ns, rfl, hns, fc, go⟩ := h
  refine ⟨_, (pss_cons (ps_set (i := 1) sc_law.nd rfl (Or.inl rfl) (pc g_dice hr (pa_cons (pv 0) pa_nil)))
      (pss_cons (ps_set (i := 2) sc_law.nd rfl (Or.inl rfl) (pe_ix ix_tup (pc g_counts hr (pa_cons (pv 1) pa_nil)) pe_int (fun _ _ => rfl)))
      (pss_cons (ps_asg (pc g_story hr (pa_cons (pv 2) (pa_cons (pc g_changes hr (pa_cons (pv 1) (pa_cons (pv 2) (pa_cons pe_int pa_nil)))) pa_nil))) (pg_tup rfl (pgs_cons (pg_name (i := 3) sc_law.nd rfl (Or.inl rfl)) (pgs_cons (pg_name (i := 4) sc_law.nd rfl (Or.inl rfl)) pgs_nil))))
      (pss_cons (ps_set (i := 5) sc_law.nd rfl (Or.inl rfl) (pe_fz (pe_lst (pa_cons (pe_tup (pa_cons (pk k_Hearer hr (pa_cons (pv 2) pa_nil)) (pa_cons (pc g_hearer hr (pa_cons (pv 2) pa_nil)) pa_nil))) (pa_cons (pe_tup (pa_cons (pk k_Hearer hr (pa_cons (pv 2) pa_nil)) (pa_cons (pc g_hearer hr (pa_cons (pv 2) pa_nil)) pa_nil))) pa_nil)))))
      (pss_cons (ps_for PassesOwn.never rfl (pi_range1 rfl Bm.range (pa_cons (pc g_next hr (pa_cons (pv 1) (pa_cons pe_int pa_nil))) pa_nil)) (pg_name (i := 6) sc_law.nd rfl (Or.inl rfl))
        (pss_cons (ps_asg (pe_ix ix_list (pv 5) (pc g_next hr (pa_cons (pv 1) (pa_cons pe_int pa_nil))) (fun _ _ => rfl)) (pg_tup rfl (pgs_cons (pg_name (i := 7) sc_law.nd rfl (Or.inl rfl)) (pgs_cons (pg_name (i := 8) sc_law.nd rfl (Or.inl rfl)) pgs_nil))))
        (pss_cons (ps_set (i := 9) sc_law.nd rfl (Or.inl rfl) (pc g_letter hr (pa_cons (pv 1) (pa_cons (pv 2) (pa_cons (pv 3) (pa_cons (pv 4) pa_nil))))))
        (pss_cons (ps_set (i := 10) sc_law.nd rfl (Or.inl rfl) (pm (pv 7) CHearer.cl m_Hearer_hear hr (pa_cons (pv 9) pa_nil)))
        (pss_cons (ps_if (pt_not (pt_val (pc g_like hr (pa_cons (pv 10) (pa_cons (pc g_hear hr (pa_cons (pv 8) (pa_cons (pv 9) pa_nil))) pa_nil)))))
          (pss_one (ps_ret pe_bl))
          pss_nil)
        (pss_cons (ps_for PassesOwn.never rfl (pi_list (pe_lst (pa_cons (pv 10) (pa_cons (pm0 (pv 7) CHearer.cl m_Hearer_known hr) (pa_cons (pm0 (pv 7) CHearer.cl m_Hearer_held hr) pa_nil))))) (pg_name (i := 11) sc_law.nd rfl (Or.inl rfl))
          (pss_one (ps_expr (pe_bm PySem.F.plainAttrs_list PySem.F.slot_list_append PySem.F.type_list_append mt_append (pv 11) (pa_cons (pe_un un_neg pe_int) pa_nil)))))
        (pss_cons (ps_mid (ps_if (pt_cmpR op_notN (pm0 (pv 7) CHearer.cl m_Hearer_whole hr) pe_non (nomark _))
          (pss_one (ps_expr (pe_bm0 PySem.F.plainAttrs_list PySem.F.slot_list_clear PySem.F.type_list_clear mt_clear (pe_ix ix_tup (pm0 (pv 7) CHearer.cl m_Hearer_whole hr) pe_int (fun _ _ => rfl)))))
          pss_nil))
        (pss_one (ps_for PassesOwn.never rfl (pi_list (pv 5)) (pg_tup rfl (pgs_cons (pg_name (i := 12) sc_law.nd rfl (Or.inl rfl)) (pgs_cons (pg_name (i := 13) sc_law.nd rfl (Or.inl rfl)) pgs_nil)))
          (pss_one (ps_if (pt_not (pt_val (pc g_is hr (pa_cons (pv 12) (pa_cons (pv 13) pa_nil)))))
            (pss_one (ps_ret pe_bl))
            pss_nil)))))))))))
      (pss_one (ps_ret pe_bl))))))), ?_⟩
  have z0 : 0 ≤ sizeLine := by decide
  refine ⟨_, rfl, rfl, c, ns, [], rfl, by omega, fc, .nil, fun a H1 m1 d1 => ?_⟩
  refine ⟨_, rfl, rfl, a, [], rfl, d1, fun nk keep tc H2 hk hk8 hkp m2 d2 htc => ⟨tc, _, _, _, rfl, rfl, SqT.of htc, rfl, ?_⟩⟩
  -- rows, letters = story(keys, changes(d, keys, 60))
  refine ⟨_, rfl, _, rfl, _, rfl, rfl, a, nk, 60, _, rfl, hk, hk8, by decide, d2, fun cs v0 H3 hcl hck m3 d3 r0 => ?_⟩
  refine ⟨rfl, nk, cs, v0, rfl, hk8, by omega, hck, r0, fun u H4 g4 r4 => ?_⟩
  have d4 := d3.grow g4
  obtain ⟨as, us, rfl, has, rus⟩ := r4.tup_inv
  obtain ⟨vr, us, rfl, rvr, rus⟩ := rus.cons_inv
  obtain ⟨vl, us, rfl, rvl, rus⟩ := rus.cons_inv
  have := rus.nil_inv
  subst this
  refine ⟨as, _, rfl, SqT.of has, rfl, _, _, rfl, _, _, rfl, rfl, ?_⟩
  -- sides
  refine rd_fz ?_
  refine ⟨_, rfl, fun x1 dx1 hx1 hd1 hn1 => ?_⟩
  have t5 := mk_tr (C := C) hx1 hd1 hn1
  refine ⟨rfl, x1, dx1, nk, rfl, hk, hk8, upd_same, fun A1 k1 H5 e1 R5 u5 => ⟨rfl, _, rfl, rfl, nk, rfl, hk8, fun O1 co1 H6 o6 t6 => ⟨(by show 2 ≤ sizeLine; decide), fun tt1 htt1 => ?_⟩⟩⟩
  subst e1
  have s1 := ((t5.trans u5).onto t6).old (o := .tup [.ref A1.p, .ref O1.r]) htt1
  have q1 : (upd H6 tt1 (.tup [.ref A1.p, .ref O1.r])) tt1 = some (.tup [.ref A1.p, .ref O1.r]) := upd_same
  have mo := Mono.new (o := .tup [.ref A1.p, .ref O1.r]) htt1
  have R6 := (R5.mono t6.mono).mono mo
  have o6 := o6.mono mo
  have d6 := Dice.tr (C := []) d4 s1
  have m6 := s1.mono
  generalize upd H6 tt1 (.tup [.ref A1.p, .ref O1.r]) = H7 at *
  refine ⟨_, rfl, fun x2 dx2 hx2 hd2 hn2 => ?_⟩
  have t8 := mk_tr (C := C) hx2 hd2 hn2
  refine ⟨rfl, x2, dx2, nk, rfl, hk, hk8, upd_same, fun A2 k2 H8 e2 R8 u8 => ⟨rfl, _, rfl, rfl, nk, rfl, hk8, fun O2 co2 H9 o9 t9 => ⟨(by show 2 ≤ sizeLine; decide), fun tt2 htt2 => ?_⟩⟩⟩
  subst e2
  have s2 := ((t8.trans u8).onto t9).old (o := .tup [.ref A2.p, .ref O2.r]) htt2
  have q2 : (upd H9 tt2 (.tup [.ref A2.p, .ref O2.r])) tt2 = some (.tup [.ref A2.p, .ref O2.r]) := upd_same
  have mo2 := Mono.new (o := .tup [.ref A2.p, .ref O2.r]) htt2
  have R9 := (R8.mono t9.mono).mono mo2
  have o9 := o9.mono mo2
  have d9 := Dice.tr (C := []) d6 s2
  have m9 := s2.mono
  generalize upd H9 tt2 (.tup [.ref A2.p, .ref O2.r]) = H10 at *
  refine ⟨(by show 2 ≤ sizeLine; decide), fun sl hsl => ⟨sl, _, rfl, upd_same, fun ob => ?_⟩⟩
  have d11 := (d9.new (o := .lst [.ref tt1, .ref tt2]) hsl nl).fz (ob := ob)
  have m11 := (Mono.new (o := .lst [.ref tt1, .ref tt2]) hsl).trans ((d9.new (o := .lst [.ref tt1, .ref tt2]) hsl nl).mfz (ob := ob))
  have fsl : FzL K (upd (upd H10 sl (.lst [.ref tt1, .ref tt2])) sl (.frz ob (.lst [.ref tt1, .ref tt2]))) sl [.ref tt1, .ref tt2] := FzL.frz
  generalize upd (upd H10 sl (.lst [.ref tt1, .ref tt2])) sl (.frz ob (.lst [.ref tt1, .ref tt2])) = H11 at *
  have m411 := (m6.trans m9).trans m11
  -- for turn in range(next(d, 121))
  refine ⟨_, rfl, rfl, a, 121, _, rfl, by decide, by decide, d11, fun r12 H12 p12 q12 m12 d12 => ⟨_, rfl, by omega, by omega, ?_⟩⟩
  refine for_range (lo := 0) (n := r12.toNat) (fun i σ H => ∃ (S : List Sd) (v6 v7 v8 v9 v10 v11 v12 v13 : Option V), σ = [some (.ref c), some (.ref a), some (.int nk), some vr, some vl, some (.ref sl), v6, v7, v8, v9, v10, v11, v12, v13] ∧ Mono H11 H ∧ Dice K H a (kS S ++ []) ∧ (∀ s ∈ S, SdOk K C nk cs H s) ∧ S.map Sd.t = [tt1, tt2])
    ⟨[⟨A1, O1, List.replicate nk HK.ini, [], k1, co1, tt1⟩, ⟨A2, O2, List.replicate nk HK.ini, [], k2, co2, tt2⟩], none, none, none, none, none, none, none, none, rfl, m12, ?_, fun s hs => ?_, rfl⟩ ?_ ?_
  · refine d12.perm ?_
    show ((co2 ++ k2) ++ ((co1 ++ k1) ++ [])).Perm (((k1 ++ co1) ++ ((k2 ++ co2) ++ [])) ++ [])
    simp only [List.append_nil]
    exact List.perm_append_comm.trans (List.Perm.append List.perm_append_comm List.perm_append_comm)
  · simp only [List.mem_cons, List.not_mem_nil, or_false] at hs
    have mm := m11.trans m12
    rcases hs with rfl | rfl
    · exact ⟨(R6.mono m9).mono mm, (o6.mono m9).mono mm, AllI.ini nk cs, AsR.ini cs nk, mm _ _ (m9 _ _ q1 trivial) trivial⟩
    · exact ⟨R9.mono mm, o9.mono mm, AllI.ini nk cs, AsR.ini cs nk, mm _ _ q2 trivial⟩
  · rintro i σ H hi ⟨S, v6, v7, v8, v9, v10, v11, v12, v13, rfl, mH, dH, hS, hA⟩
    have hS2 : S.length = 2 := by
      have := congrArg List.length hA
      simpa using this
    -- hearer, h = sides[next(d, 2)]
    refine ⟨_, rfl, _, rfl, rfl, a, 2, _, rfl, by decide, by decide, dH, fun r13 H13 p13 q13 m13 d13 => ?_⟩
    obtain ⟨j, rfl, hj⟩ : ∃ j : Nat, r13 = j ∧ j < 2 := ⟨r13.toNat, by omega, by omega⟩
    have hx : ∃ x, [V.ref tt1, .ref tt2][j]? = some x := ⟨[V.ref tt1, .ref tt2][j], List.getElem?_eq_getElem hj⟩
    obtain ⟨x, hx⟩ := hx
    obtain ⟨sd, es, rfl⟩ := two_get hA hx
    have hjl : j < S.length := by omega
    have ok13 := (hS sd (List.mem_of_getElem? es)).mono m13
    refine ⟨sl, _, _, _, rfl, rfl, (fsl.mono (mH.trans m13)).sq, at_of (j := j) rfl hx, sd.t, _, rfl, SqT.of ok13.t, rfl, _, _, rfl, _, _, rfl, rfl, ?_⟩
    -- letter = letter(d, keys, rows, letters)
    have mR := m411.trans (mH.trans m13)
    refine ⟨_, rfl, _, rfl, _, rfl, _, rfl, rfl, a, nk, cs, vr, vl, _, rfl, hk, hk8, by omega, d13, rvr.mono mR, rvl.mono mR, fun l v H14 il m14 d14 r14 => ?_⟩
    have ok14 := ok13.mono m14
    have d14 := d14.perm (kS_at es)
    generalize hZ : rS S j ++ [] = Z at d14
    have ai := ok14.ai
    have few := heard_few ai il
    -- found = hearer.hear(letter)
    refine ⟨_, rfl, sd.A.p, _, _, rfl, ok14.r.at_p d14.has.left, hFno, _, rfl, rfl, sd.A, sd.hs, sd.k, v, l, rfl, ok14.r, d14.has.left, r14, by rw [ai.1]; exact hk8, ai.wf (by omega), let_ok hck ai.1 il, fun f1 k' H15 r15 t15 => ?_⟩
    have d15 : Dice K H15 a ((f1, .lst ((heard sd.hs l).map V.int)) :: (k' ++ (sd.co ++ Z))) := d14.tr t15
    have o15 := ok14.o.mono t15.mono
    -- like(found, hear(h, letter))
    have d15' : Dice K H15 a (sd.co ++ ((f1, .lst ((heard sd.hs l).map V.int)) :: (k' ++ Z))) := d15.perm (by
      refine (List.Perm.cons _ ?_).trans List.perm_middle.symm
      rw [← List.append_assoc, ← List.append_assoc]
      exact List.Perm.append_right _ List.perm_append_comm)
    refine ⟨_, rfl, _, rfl, _, rfl, rfl, sd.O, sd.hs, sd.as, sd.co, nk, cs, v, l, rfl, o15, d15'.has.left, ok14.ar, ai, hk8, by omega, hck, il, r14.mono t15.mono, fun p16 as' co' H16 o16 ar16 t16 => ?_⟩
    have d16 : Dice K H16 a ((p16, .lst ((heard sd.hs l).map V.int)) :: (co' ++ ((f1, .lst ((heard sd.hs l).map V.int)) :: (k' ++ Z)))) := d15'.tr t16
    refine ⟨rfl, ilst (heard sd.hs l), _, _, rfl, Dp.ints' (d16.has.tail.right.head), Dp.ints' d16.has.head, (Gd.ilst (n := 0) _).1, Nat.lt_of_le_of_lt (Gd.ilst (n := 0) _).2 (by decide), wid_ilst (by omega), _, rfl, iteM (by decide) ?_⟩
    have r16 := r15.mono t16.mono
    have ai' := ai.hear il
    have hnk := ai'.1
    have d16 : Dice K H16 a ((f1, .lst ((heard sd.hs l).map V.int)) :: (k' ++ (co' ++ Z))) := d16.tail.perm (by
      refine List.perm_middle.trans (List.Perm.cons _ ?_)
      rw [← List.append_assoc, ← List.append_assoc]
      exact List.Perm.append_right _ List.perm_append_comm)
    have hheld := ai'.held (by omega) hk8
    -- for some in [found, hearer.known(), hearer.held()]
    refine ⟨_, rfl, _, rfl, sd.A.p, _, _, rfl, r16.at_p d16.has.tail.left, hFno, rfl, sd.A, hear sd.hs l, k', rfl, r16, d16.has.tail.left, fun p17 H17 t17 => ?_⟩
    have d17 := Dice.tr (C := []) d16 t17
    have r17 := r16.mono t17.mono
    refine ⟨_, rfl, sd.A.p, _, _, rfl, r17.at_p d17.has.tail.tail.left, hFno, rfl, sd.A, hear sd.hs l, k', rfl, r17, d17.has.tail.tail.left, hheld, fun p18 H18 t18 => ⟨(by show 3 ≤ sizeLine; decide), fun L hL => ?_⟩⟩
    have d18 := (Dice.tr (C := []) d17 t18).new (o := .lst [.ref f1, .ref p17, .ref p18]) hL nl
    have m18 := (t17.mono.trans t18.mono).trans (Mono.new (o := .lst [.ref f1, .ref p17, .ref p18]) hL)
    have hheldl : (heldM (hear sd.hs l)).length ≤ 1000 := by
      unfold heldM
      rw [(srt_perm _).length_eq]
      exact hheld
    have d18 : Dice K _ a ((L, .lst [.ref f1, .ref p17, .ref p18]) :: (p18, .lst ((heldM (hear sd.hs l)).map V.int)) :: (p17, .lst (((hear sd.hs l).map fun h => h.upto).map V.int)) :: (f1, .lst ((heard sd.hs l).map V.int)) :: (k' ++ (co' ++ Z))) := d18
    generalize upd H18 L (.lst [.ref f1, .ref p17, .ref p18]) = H19 at *
    refine ⟨L, rfl, ⟨_, SqL.of d18.at_⟩, for_list (K := K) (a := L) (xs := [.ref f1, .ref p17, .ref p18]) (fun i2 σ H => ∃ (v11 : Option V) (y1 y2 y3 : List V), σ = [some (.ref c), some (.ref a), some (.int nk), some vr, some vl, some (.ref sl), some (.int (0 + i)), some (.ref sd.A.p), some (.ref sd.O.r), some v, some (.ref f1), v11, v12, v13] ∧ Mono H19 H ∧
        Dice K H a ((L, .lst [.ref f1, .ref p17, .ref p18]) :: (p18, .lst y3) :: (p17, .lst y2) :: (f1, .lst y1) :: (k' ++ (co' ++ Z))) ∧ y1.length ≤ 1000 + i2 ∧ y2.length ≤ 1000 + i2 ∧ y3.length ≤ 1000 + i2)
      ⟨v11, _, _, _, rfl, Mono.refl _, d18, by rw [List.length_map]; omega, by rw [List.length_map, List.length_map]; omega, by rw [List.length_map]; omega⟩ (fun i2 σ H _ ⟨_, _, _, _, _, _, d, _⟩ => SqL.of d.at_) ?_ ?_⟩
    · rintro i2 x σ H hi2 ⟨v11, y1, y2, y3, rfl, mJ, dJ, b1, b2, b3⟩
      have sizeOk : ∀ {n : Nat}, n ≤ 1002 → n < sizeLine := fun h => Nat.lt_of_le_of_lt h (by decide)
      have sw2 : ∀ {x y : Addr × HO} {X : Lg}, (x :: y :: X).Perm (y :: x :: X) := fun {x y X} => List.Perm.swap _ _ _
      have sw3 : ∀ {x y z : Addr × HO} {X : Lg}, (x :: y :: z :: X).Perm (z :: x :: y :: X) := fun {x y z X} => List.perm_middle (l₁ := [x, y])
      have sw4 : ∀ {x y z u : Addr × HO} {X : Lg}, (x :: y :: z :: u :: X).Perm (u :: x :: y :: z :: X) := fun {x y z u X} => List.perm_middle (l₁ := [x, y, z])
      match i2, hi2 with
      | 0, hi2 =>
        cases hi2
        have dd := dJ.perm sw4
        refine ⟨_, rfl, .inl ⟨rfl, _, SqL.of dd.at_⟩, _, rfl, _, _, _, rfl, rfl, dd.at_, sizeOk (by omega), ?_⟩
        exact ⟨_, _, y2, y3, rfl, mJ.trans dd.mput, (dd.put nl).perm sw4.symm, by rw [List.length_append]; show y1.length + 1 ≤ _; omega, by omega, by omega⟩
      | 1, hi2 =>
        cases hi2
        have dd := dJ.perm sw3
        refine ⟨_, rfl, .inl ⟨rfl, _, SqL.of dd.at_⟩, _, rfl, _, _, _, rfl, rfl, dd.at_, sizeOk (by omega), ?_⟩
        exact ⟨_, y1, _, y3, rfl, mJ.trans dd.mput, (dd.put nl).perm sw3.symm, by omega, by rw [List.length_append]; show y2.length + 1 ≤ _; omega, by omega⟩
      | 2, hi2 =>
        cases hi2
        have dd := dJ.perm sw2
        refine ⟨_, rfl, .inl ⟨rfl, _, SqL.of dd.at_⟩, _, rfl, _, _, _, rfl, rfl, dd.at_, sizeOk (by omega), ?_⟩
        exact ⟨_, y1, y2, _, rfl, mJ.trans dd.mput, (dd.put nl).perm sw2.symm, by omega, by omega, by rw [List.length_append]; show y3.length + 1 ≤ _; omega⟩
      | n + 3, hi2 => simp at hi2
    rintro σ H20 ⟨v11, y1, y2, y3, rfl, m20, d20, _, _, _⟩
    have d20 : Dice K H20 a (k' ++ (co' ++ Z)) := d20.tail.tail.tail.tail
    have m1620 := m18.trans m20
    have r20 := r16.mono m1620
    -- if hearer.whole() is not None: hearer.whole()[1].clear()
    refine rd_mid (fun σ' H' => σ' = [some (.ref c), some (.ref a), some (.int nk), some vr, some vl, some (.ref sl), some (.int (0 + i)), some (.ref sd.A.p), some (.ref sd.O.r), some v, some (.ref f1), v11, v12, v13] ∧ Grow H20 H') ?_ ?_
    · refine ⟨_, rfl, sd.A.p, _, _, rfl, r20.at_p d20.has.left, hFno, rfl, sd.A, hear sd.hs l, k', rfl, r20, d20.has.left, by omega, fun hw => ?_, fun n ws hw rr t H21 t21 ht => ?_⟩
      · exact ⟨rfl, _, rfl, iteM (by decide) ⟨rfl, Grow.refl _⟩⟩
      · have d21 : Dice K H21 a ((rr, .lst (ws.map V.int)) :: (k' ++ (co' ++ Z))) := Dice.tr (C := []) d20 t21
        have r21 := r20.mono t21.mono
        refine ⟨rfl, _, rfl, iteP (by simp) ⟨_, rfl, sd.A.p, _, _, rfl, r21.at_p d21.has.tail.left, hFno, rfl, sd.A, hear sd.hs l, k', rfl, r21, d21.has.tail.left, by omega, fun hw2 => ?_, fun n2 ws2 hw2 rr2 tt2 H22 t22 ht2 => ?_⟩⟩
        · rw [hw] at hw2
          cases hw2
        · refine ⟨tt2, _, _, _, rfl, rfl, SqT.of ht2, rfl, .inl ⟨rfl, _, SqL.of t22.own.head⟩, rr2, _, rfl, rfl, t22.own.head, rfl, ?_⟩
          exact ((t21.tail).trans ((t22.put (o' := .lst []) .nil nl).tail))
    rintro _ H21 ⟨rfl, g21⟩
    have d21 := d20.grow g21
    have ok21 : SdOk K C nk cs H21 ⟨sd.A, sd.O, hear sd.hs l, as', k', co', sd.t⟩ := by
      have mm := m1620.trans g21.mono
      exact ⟨r16.mono mm, o16.mono mm, ai', ar16, (t15.mono.trans (t16.mono.trans mm)) _ _ ok14.t trivial⟩
    have m1421 : Mono H14 H21 := t15.mono.trans (t16.mono.trans (m1620.trans g21.mono))
    rw [← hZ] at d21
    have d22 : Dice K H21 a (kS (S.set j ⟨sd.A, sd.O, hear sd.hs l, as', k', co', sd.t⟩) ++ []) := d21.perm (kS_set (sd' := ⟨sd.A, sd.O, hear sd.hs l, as', k', co', sd.t⟩) es)
    have hS' : ∀ s ∈ S.set j ⟨sd.A, sd.O, hear sd.hs l, as', k', co', sd.t⟩, SdOk K C nk cs H21 s := fun s hs => by
      rcases List.mem_or_eq_of_mem_set hs with h | rfl
      · exact (((hS s h).mono m13).mono m14).mono m1421
      · exact ok21
    have hA' := two_set (sd' := ⟨sd.A, sd.O, hear sd.hs l, as', k', co', sd.t⟩) hA es rfl
    generalize S.set j ⟨sd.A, sd.O, hear sd.hs l, as', k', co', sd.t⟩ = S' at *
    have mH21 := ((mH.trans m13).trans m14).trans m1421
    -- for one, other in sides
    refine ⟨_, rfl, sl, rfl, ⟨_, (fsl.mono mH21).sq⟩, for_list (K := K) (a := sl) (xs := [.ref tt1, .ref tt2]) (fun i2 σ H => ∃ v12 v13 : Option V, σ = [some (.ref c), some (.ref a), some (.int nk), some vr, some vl, some (.ref sl), some (.int (0 + i)), some (.ref sd.A.p), some (.ref sd.O.r), some v, some (.ref f1), v11, v12, v13] ∧ Grow H21 H)
      ⟨_, _, rfl, Grow.refl _⟩ (fun i2 σ H _ ⟨_, _, _, g⟩ => (fsl.mono (mH21.trans g.mono)).sq) ?_ ?_⟩
    · rintro i2 x σ H hi2 ⟨v12, v13, rfl, gH⟩
      obtain ⟨s2, es2, rfl⟩ := two_get hA' hi2
      have ok2 := (hS' s2 (List.mem_of_getElem? es2)).mono gH.mono
      have dd := (d22.grow gH).perm (kS_at es2)
      refine ⟨s2.t, _, rfl, SqT.of ok2.t, rfl, _, _, rfl, _, _, rfl, rfl, ?_⟩
      have hh : Has H (s2.k ++ s2.co) := by
        have := dd.has
        rw [← List.append_assoc] at this
        exact this.left
      refine ⟨_, rfl, _, rfl, rfl, s2.A, s2.O, s2.hs, s2.as, s2.k, s2.co, nk, cs, rfl, ok2.r, ok2.o, hh, ok2.ar, ok2.ai, hk, hk8, by omega, fun H' g' => ⟨_, rfl, iteM (by decide) ⟨_, _, rfl, gH.trans g'⟩⟩⟩
    · rintro σ H ⟨v12, v13, rfl, gH⟩
      exact ⟨S', _, _, _, _, _, _, _, _, rfl, mH21.trans gH.mono, d22.grow gH, fun s hs => (hS' s hs).mono gH.mono, hA'⟩
  · rintro σ H ⟨S, v6, v7, v8, v9, v10, v11, v12, v13, rfl, mH, dH, hS, hA⟩
    exact go _
end
end Cu

namespace Cu
open PySem PySem.Spec PyProof.Rows L2
theorem facts {l : PySem.W.OpenLaw} {w : World} {K : PySem.W.Frag} {h : Heap} {mg : Str → Option Value} {fa C_Hearer f1 f2 f3 f4 f5 f6 f7 f8 f9 f10 f11 f12 f13 f14 f15 f16 f17 f18 f19 f20 f21 f22 f23 f24 f25 f26 : Addr} (X : K.In h) (G : h.Ns mainGlobals mg) (hfa : mg "law" = some (.ref fa))
    {od1 an1 od2 an2 od3 an3 od4 an4 od5 an5 od6 an6 od7 an7 od8 an8 od9 an9 od10 an10 od11 an11 od12 an12 od13 an13 od14 an14 od15 an15 od16 an16 od17 an17 od18 an18 od19 an19 od20 an20 od21 an21 od22 an22 od23 an23 od24 an24 od25 an25 od26 an26 : Option Addr} {sl1 sl2 sl3 sl4 sl5 sl6 sl7 sl8 sl9 sl10 sl11 sl12 sl13 sl14 sl15 sl16 sl17 sl18 sl19 sl20 sl21 sl22 sl23 sl24 sl25 sl26 : Array (Option Value)} {oc1 kV1 dc1 pm1 cd1 ct1 oc2 kV2 dc2 pm2 cd2 ct2 oc3 kV3 dc3 pm3 cd3 ct3 oc4 kV4 dc4 pm4 cd4 ct4 oc5 kV5 dc5 pm5 cd5 ct5 oc6 kV6 dc6 pm6 cd6 ct6 oc7 kV7 dc7 pm7 cd7 ct7 oc8 kV8 dc8 pm8 cd8 ct8 oc9 kV9 dc9 pm9 cd9 ct9 oc10 kV10 dc10 pm10 cd10 ct10 oc11 kV11 dc11 pm11 cd11 ct11 oc12 kV12 dc12 pm12 cd12 ct12 oc13 kV13 dc13 pm13 cd13 ct13 oc14 kV14 dc14 pm14 cd14 ct14 oc15 kV15 dc15 pm15 cd15 ct15 oc16 kV16 dc16 pm16 cd16 ct16 oc17 kV17 dc17 pm17 cd17 ct17 oc18 kV18 dc18 pm18 cd18 ct18 oc19 kV19 dc19 pm19 cd19 ct19 oc20 kV20 dc20 pm20 cd20 ct20 oc21 kV21 dc21 pm21 cd21 ct21 oc22 kV22 dc22 pm22 cd22 ct22 oc23 kV23 dc23 pm23 cd23 ct23 oc24 kV24 dc24 pm24 cd24 ct24 oc25 kV25 dc25 pm25 cd25 ct25 oc26 kV26 dc26 pm26 cd26 ct26 : Value} {tk_MOST_KEYS : Tok}
    (b_len : PySem.W.nsIn K mainGlobals "len" = some none)
    (b_range : PySem.W.nsIn K mainGlobals "range" = some none)
    (b_int : PySem.W.nsIn K mainGlobals "int" = some none)
    (b_list : PySem.W.nsIn K mainGlobals "list" = some none)
    (b_tuple : PySem.W.nsIn K mainGlobals "tuple" = some none)
    (b_sorted : PySem.W.nsIn K mainGlobals "sorted" = some none)
    (b_min : PySem.W.nsIn K mainGlobals "min" = some none)
    (b_max : PySem.W.nsIn K mainGlobals "max" = some none)
    (b_sum : PySem.W.nsIn K mainGlobals "sum" = some none)
    (b_set : PySem.W.nsIn K mainGlobals "set" = some none)
    (b_str : PySem.W.nsIn K mainGlobals "str" = some none)
    (b_isinstance : PySem.W.nsIn K mainGlobals "isinstance" = some none)
    (b_enumerate : PySem.W.nsIn K mainGlobals "enumerate" = some none)
    (b_zip : PySem.W.nsIn K mainGlobals "zip" = some none)
    (b_bool : PySem.W.nsIn K mainGlobals "bool" = some none)
    (b_dict : PySem.W.nsIn K mainGlobals "dict" = some none)
    (c_MOST_KEYS : PySem.W.nsIn K mainGlobals "MOST_KEYS" = some (some (.int 8 tk_MOST_KEYS)))
    (ac_Hearer : PySem.W.nsIn K mainGlobals "Hearer" = some (some (.ref C_Hearer)))
    (pg_Hearer : PySem.W.plainGet K C_Hearer Str.empty = true)
    (hd_Hearer : PySem.W.hasDictIn K C_Hearer = true)
    (po_Hearer : PySem.W.plainOver K C_Hearer = true)
    (sa_Hearer : PySem.W.findIn K (.ref C_Hearer) "__setattr__" = some (some (.builtin "object.__setattr__")))
    (no0_Hearer : PySem.W.findIn K (.ref C_Hearer) "worth" = some none)
    (no1_Hearer : PySem.W.findIn K (.ref C_Hearer) "since" = some none)
    (no2_Hearer : PySem.W.findIn K (.ref C_Hearer) "upto" = some none)
    (no3_Hearer : PySem.W.findIn K (.ref C_Hearer) "aside" = some none)
    (a1 : PySem.W.nsIn K mainGlobals "_law_dice" = some (some (.ref f1)))
    (l1 : K.lookup f1 = some ⟨oc1, od1, .func (PySem.W.fnOf "_law_dice" "_law_dice" (defArgs s_dice) (defBody s_dice) (defScope s_dice) .none kV1 dc1 pm1 an1 cd1 ct1), sl1⟩)
    (d1 : PySem.W.codeIn K cd1 "_law_dice" = true)
    (k1 : PySem.W.keepIn K (.ref f1) = true)
    (a2 : PySem.W.nsIn K mainGlobals "_law_next" = some (some (.ref f2)))
    (l2 : K.lookup f2 = some ⟨oc2, od2, .func (PySem.W.fnOf "_law_next" "_law_next" (defArgs s_next) (defBody s_next) (defScope s_next) .none kV2 dc2 pm2 an2 cd2 ct2), sl2⟩)
    (d2 : PySem.W.codeIn K cd2 "_law_next" = true)
    (k2 : PySem.W.keepIn K (.ref f2) = true)
    (a3 : PySem.W.nsIn K mainGlobals "_law_counts" = some (some (.ref f3)))
    (l3 : K.lookup f3 = some ⟨oc3, od3, .func (PySem.W.fnOf "_law_counts" "_law_counts" (defArgs s_counts) (defBody s_counts) (defScope s_counts) .none kV3 dc3 pm3 an3 cd3 ct3), sl3⟩)
    (d3 : PySem.W.codeIn K cd3 "_law_counts" = true)
    (k3 : PySem.W.keepIn K (.ref f3) = true)
    (a4 : PySem.W.nsIn K mainGlobals "_law_worth" = some (some (.ref f4)))
    (l4 : K.lookup f4 = some ⟨oc4, od4, .func (PySem.W.fnOf "_law_worth" "_law_worth" (defArgs s_worth) (defBody s_worth) (defScope s_worth) .none kV4 dc4 pm4 an4 cd4 ct4), sl4⟩)
    (d4 : PySem.W.codeIn K cd4 "_law_worth" = true)
    (k4 : PySem.W.keepIn K (.ref f4) = true)
    (a5 : PySem.W.nsIn K mainGlobals "_law_changes" = some (some (.ref f5)))
    (l5 : K.lookup f5 = some ⟨oc5, od5, .func (PySem.W.fnOf "_law_changes" "_law_changes" (defArgs s_changes) (defBody s_changes) (defScope s_changes) .none kV5 dc5 pm5 an5 cd5 ct5), sl5⟩)
    (d5 : PySem.W.codeIn K cd5 "_law_changes" = true)
    (k5 : PySem.W.keepIn K (.ref f5) = true)
    (a6 : PySem.W.nsIn K mainGlobals "_law_story" = some (some (.ref f6)))
    (l6 : K.lookup f6 = some ⟨oc6, od6, .func (PySem.W.fnOf "_law_story" "_law_story" (defArgs s_story) (defBody s_story) (defScope s_story) .none kV6 dc6 pm6 an6 cd6 ct6), sl6⟩)
    (d6 : PySem.W.codeIn K cd6 "_law_story" = true)
    (k6 : PySem.W.keepIn K (.ref f6) = true)
    (a7 : PySem.W.nsIn K mainGlobals "_law_part" = some (some (.ref f7)))
    (l7 : K.lookup f7 = some ⟨oc7, od7, .func (PySem.W.fnOf "_law_part" "_law_part" (defArgs s_part) (defBody s_part) (defScope s_part) .none kV7 dc7 pm7 an7 cd7 ct7), sl7⟩)
    (d7 : PySem.W.codeIn K cd7 "_law_part" = true)
    (k7 : PySem.W.keepIn K (.ref f7) = true)
    (a8 : PySem.W.nsIn K mainGlobals "_law_beat" = some (some (.ref f8)))
    (l8 : K.lookup f8 = some ⟨oc8, od8, .func (PySem.W.fnOf "_law_beat" "_law_beat" (defArgs s_beat) (defBody s_beat) (defScope s_beat) .none kV8 dc8 pm8 an8 cd8 ct8), sl8⟩)
    (d8 : PySem.W.codeIn K cd8 "_law_beat" = true)
    (k8 : PySem.W.keepIn K (.ref f8) = true)
    (a9 : PySem.W.nsIn K mainGlobals "_law_letter" = some (some (.ref f9)))
    (l9 : K.lookup f9 = some ⟨oc9, od9, .func (PySem.W.fnOf "_law_letter" "_law_letter" (defArgs s_letter) (defBody s_letter) (defScope s_letter) .none kV9 dc9 pm9 an9 cd9 ct9), sl9⟩)
    (d9 : PySem.W.codeIn K cd9 "_law_letter" = true)
    (k9 : PySem.W.keepIn K (.ref f9) = true)
    (a10 : PySem.W.nsIn K mainGlobals "_law_hearer" = some (some (.ref f10)))
    (l10 : K.lookup f10 = some ⟨oc10, od10, .func (PySem.W.fnOf "_law_hearer" "_law_hearer" (defArgs s_hearer) (defBody s_hearer) (defScope s_hearer) .none kV10 dc10 pm10 an10 cd10 ct10), sl10⟩)
    (d10 : PySem.W.codeIn K cd10 "_law_hearer" = true)
    (k10 : PySem.W.keepIn K (.ref f10) = true)
    (a11 : PySem.W.nsIn K mainGlobals "_law_do" = some (some (.ref f11)))
    (l11 : K.lookup f11 = some ⟨oc11, od11, .func (PySem.W.fnOf "_law_do" "_law_do" (defArgs s_do) (defBody s_do) (defScope s_do) .none kV11 dc11 pm11 an11 cd11 ct11), sl11⟩)
    (d11 : PySem.W.codeIn K cd11 "_law_do" = true)
    (k11 : PySem.W.keepIn K (.ref f11) = true)
    (a12 : PySem.W.nsIn K mainGlobals "_law_freed" = some (some (.ref f12)))
    (l12 : K.lookup f12 = some ⟨oc12, od12, .func (PySem.W.fnOf "_law_freed" "_law_freed" (defArgs s_freed) (defBody s_freed) (defScope s_freed) .none kV12 dc12 pm12 an12 cd12 ct12), sl12⟩)
    (d12 : PySem.W.codeIn K cd12 "_law_freed" = true)
    (k12 : PySem.W.keepIn K (.ref f12) = true)
    (a13 : PySem.W.nsIn K mainGlobals "_law_hear" = some (some (.ref f13)))
    (l13 : K.lookup f13 = some ⟨oc13, od13, .func (PySem.W.fnOf "_law_hear" "_law_hear" (defArgs s_hear) (defBody s_hear) (defScope s_hear) .none kV13 dc13 pm13 an13 cd13 ct13), sl13⟩)
    (d13 : PySem.W.codeIn K cd13 "_law_hear" = true)
    (k13 : PySem.W.keepIn K (.ref f13) = true)
    (a14 : PySem.W.nsIn K mainGlobals "_law_like" = some (some (.ref f14)))
    (l14 : K.lookup f14 = some ⟨oc14, od14, .func (PySem.W.fnOf "_law_like" "_law_like" (defArgs s_like) (defBody s_like) (defScope s_like) .none kV14 dc14 pm14 an14 cd14 ct14), sl14⟩)
    (d14 : PySem.W.codeIn K cd14 "_law_like" = true)
    (k14 : PySem.W.keepIn K (.ref f14) = true)
    (a15 : PySem.W.findIn K (.ref C_Hearer) "look" = some (some (.ref f15)))
    (i15 : PySem.W.isFn K (.ref f15) = true)
    (l15 : K.lookup f15 = some ⟨oc15, od15, .func (PySem.W.fnOf "look" "Hearer.look" (defArgs s_Hearer_look) (defBody s_Hearer_look) (defScope s_Hearer_look) .none kV15 dc15 pm15 an15 cd15 ct15), sl15⟩)
    (d15 : PySem.W.codeIn K cd15 "Hearer.look" = true)
    (k15 : PySem.W.keepIn K (.ref f15) = true)
    (a16 : PySem.W.findIn K (.ref C_Hearer) "known" = some (some (.ref f16)))
    (i16 : PySem.W.isFn K (.ref f16) = true)
    (l16 : K.lookup f16 = some ⟨oc16, od16, .func (PySem.W.fnOf "known" "Hearer.known" (defArgs s_Hearer_known) (defBody s_Hearer_known) (defScope s_Hearer_known) .none kV16 dc16 pm16 an16 cd16 ct16), sl16⟩)
    (d16 : PySem.W.codeIn K cd16 "Hearer.known" = true)
    (k16 : PySem.W.keepIn K (.ref f16) = true)
    (a17 : PySem.W.findIn K (.ref C_Hearer) "held" = some (some (.ref f17)))
    (i17 : PySem.W.isFn K (.ref f17) = true)
    (l17 : K.lookup f17 = some ⟨oc17, od17, .func (PySem.W.fnOf "held" "Hearer.held" (defArgs s_Hearer_held) (defBody s_Hearer_held) (defScope s_Hearer_held) .none kV17 dc17 pm17 an17 cd17 ct17), sl17⟩)
    (d17 : PySem.W.codeIn K cd17 "Hearer.held" = true)
    (k17 : PySem.W.keepIn K (.ref f17) = true)
    (a18 : PySem.W.findIn K (.ref C_Hearer) "whole" = some (some (.ref f18)))
    (i18 : PySem.W.isFn K (.ref f18) = true)
    (l18 : K.lookup f18 = some ⟨oc18, od18, .func (PySem.W.fnOf "whole" "Hearer.whole" (defArgs s_Hearer_whole) (defBody s_Hearer_whole) (defScope s_Hearer_whole) .none kV18 dc18 pm18 an18 cd18 ct18), sl18⟩)
    (d18 : PySem.W.codeIn K cd18 "Hearer.whole" = true)
    (k18 : PySem.W.keepIn K (.ref f18) = true)
    (a19 : PySem.W.nsIn K mainGlobals "_law_is" = some (some (.ref f19)))
    (l19 : K.lookup f19 = some ⟨oc19, od19, .func (PySem.W.fnOf "_law_is" "_law_is" (defArgs s_is) (defBody s_is) (defScope s_is) .none kV19 dc19 pm19 an19 cd19 ct19), sl19⟩)
    (d19 : PySem.W.codeIn K cd19 "_law_is" = true)
    (k19 : PySem.W.keepIn K (.ref f19) = true)
    (a20 : PySem.W.findIn K (.ref C_Hearer) "__init__" = some (some (.ref f20)))
    (i20 : PySem.W.isFn K (.ref f20) = true)
    (l20 : K.lookup f20 = some ⟨oc20, od20, .func (PySem.W.fnOf "__init__" "Hearer.__init__" (defArgs s_Hearer_init) (defBody s_Hearer_init) (defScope s_Hearer_init) .none kV20 dc20 pm20 an20 cd20 ct20), sl20⟩)
    (d20 : PySem.W.codeIn K cd20 "Hearer.__init__" = true)
    (k20 : PySem.W.keepIn K (.ref f20) = true)
    (mk_Hearer : PySem.W.makesIn K C_Hearer = true)
    (kc_Hearer : PySem.W.keepIn K (.ref C_Hearer) = true)
    (a21 : PySem.W.findIn K (.ref C_Hearer) "do" = some (some (.ref f21)))
    (i21 : PySem.W.isFn K (.ref f21) = true)
    (l21 : K.lookup f21 = some ⟨oc21, od21, .func (PySem.W.fnOf "do" "Hearer.do" (defArgs s_Hearer_do) (defBody s_Hearer_do) (defScope s_Hearer_do) .none kV21 dc21 pm21 an21 cd21 ct21), sl21⟩)
    (d21 : PySem.W.codeIn K cd21 "Hearer.do" = true)
    (k21 : PySem.W.keepIn K (.ref f21) = true)
    (a22 : PySem.W.findIn K (.ref C_Hearer) "freed" = some (some (.ref f22)))
    (i22 : PySem.W.isFn K (.ref f22) = true)
    (l22 : K.lookup f22 = some ⟨oc22, od22, .func (PySem.W.fnOf "freed" "Hearer.freed" (defArgs s_Hearer_freed) (defBody s_Hearer_freed) (defScope s_Hearer_freed) .none kV22 dc22 pm22 an22 cd22 ct22), sl22⟩)
    (d22 : PySem.W.codeIn K cd22 "Hearer.freed" = true)
    (k22 : PySem.W.keepIn K (.ref f22) = true)
    (a23 : PySem.W.findIn K (.ref C_Hearer) "changed" = some (some (.ref f23)))
    (i23 : PySem.W.isFn K (.ref f23) = true)
    (l23 : K.lookup f23 = some ⟨oc23, od23, .func (PySem.W.fnOf "changed" "Hearer.changed" (defArgs s_Hearer_changed) (defBody s_Hearer_changed) (defScope s_Hearer_changed) .none kV23 dc23 pm23 an23 cd23 ct23), sl23⟩)
    (d23 : PySem.W.codeIn K cd23 "Hearer.changed" = true)
    (k23 : PySem.W.keepIn K (.ref f23) = true)
    (a24 : PySem.W.findIn K (.ref C_Hearer) "copied" = some (some (.ref f24)))
    (i24 : PySem.W.isFn K (.ref f24) = true)
    (l24 : K.lookup f24 = some ⟨oc24, od24, .func (PySem.W.fnOf "copied" "Hearer.copied" (defArgs s_Hearer_copied) (defBody s_Hearer_copied) (defScope s_Hearer_copied) .none kV24 dc24 pm24 an24 cd24 ct24), sl24⟩)
    (d24 : PySem.W.codeIn K cd24 "Hearer.copied" = true)
    (k24 : PySem.W.keepIn K (.ref f24) = true)
    (a25 : PySem.W.findIn K (.ref C_Hearer) "hear" = some (some (.ref f25)))
    (i25 : PySem.W.isFn K (.ref f25) = true)
    (l25 : K.lookup f25 = some ⟨oc25, od25, .func (PySem.W.fnOf "hear" "Hearer.hear" (defArgs s_Hearer_hear) (defBody s_Hearer_hear) (defScope s_Hearer_hear) .none kV25 dc25 pm25 an25 cd25 ct25), sl25⟩)
    (d25 : PySem.W.codeIn K cd25 "Hearer.hear" = true)
    (k25 : PySem.W.keepIn K (.ref f25) = true)
    (a26 : PySem.W.nsIn K mainGlobals "law" = some (some (.ref f26)))
    (l26 : K.lookup f26 = some ⟨oc26, od26, .func (PySem.W.fnOf "law" "law" (defArgs s_law) (defBody s_law) (defScope s_law) .none kV26 dc26 pm26 an26 cd26 ct26), sl26⟩)
    (d26 : PySem.W.codeIn K cd26 "law" = true)
    (k26 : PySem.W.keepIn K (.ref f26) = true)
    : ∃ fd : FuncData, (∀ (s : Shared) (v : Value), BindsTo s fd ⟨[v], []⟩ [("_law_script", v)]) ∧ ∀ base : Heap, K.In base → base.Ns mainGlobals mg → FnOk l.prog w K mg base CX0 6 fa fd ["_law_script"] (spLaw K) := by
  have e := hfa.symm.trans (PySem.W.mg_of X G a26)
  cases e
  have Bm : Blt mg := ⟨PySem.W.mg_none_of X G b_len, PySem.W.mg_none_of X G b_range, PySem.W.mg_none_of X G b_int, PySem.W.mg_none_of X G b_list, PySem.W.mg_none_of X G b_tuple, PySem.W.mg_none_of X G b_sorted, PySem.W.mg_none_of X G b_min, PySem.W.mg_none_of X G b_max, PySem.W.mg_none_of X G b_sum, PySem.W.mg_none_of X G b_set, PySem.W.mg_none_of X G b_str, PySem.W.mg_none_of X G b_isinstance, PySem.W.mg_none_of X G b_enumerate, PySem.W.mg_none_of X G b_zip, PySem.W.mg_none_of X G b_bool, PySem.W.mg_none_of X G b_dict⟩
  have km_MOST_KEYS := PySem.W.mg_of X G c_MOST_KEYS
  have CHearer : CHr K C_Hearer := ⟨⟨pg_Hearer, hd_Hearer, po_Hearer, sa_Hearer⟩, no0_Hearer, no1_Hearer, no2_Hearer, no3_Hearer⟩
  have F1 : Fd K mg "_law_dice" s_dice := ⟨_, _, fun_mk (st := s_dice) l1 d1 k1, PySem.W.mg_of X G a1⟩
  have F2 : Fd K mg "_law_next" s_next := ⟨_, _, fun_mk (st := s_next) l2 d2 k2, PySem.W.mg_of X G a2⟩
  have F3 : Fd K mg "_law_counts" s_counts := ⟨_, _, fun_mk (st := s_counts) l3 d3 k3, PySem.W.mg_of X G a3⟩
  have F4 : Fd K mg "_law_worth" s_worth := ⟨_, _, fun_mk (st := s_worth) l4 d4 k4, PySem.W.mg_of X G a4⟩
  have F5 : Fd K mg "_law_changes" s_changes := ⟨_, _, fun_mk (st := s_changes) l5 d5 k5, PySem.W.mg_of X G a5⟩
  have F6 : Fd K mg "_law_story" s_story := ⟨_, _, fun_mk (st := s_story) l6 d6 k6, PySem.W.mg_of X G a6⟩
  have F7 : Fd K mg "_law_part" s_part := ⟨_, _, fun_mk (st := s_part) l7 d7 k7, PySem.W.mg_of X G a7⟩
  have F8 : Fd K mg "_law_beat" s_beat := ⟨_, _, fun_mk (st := s_beat) l8 d8 k8, PySem.W.mg_of X G a8⟩
  have F9 : Fd K mg "_law_letter" s_letter := ⟨_, _, fun_mk (st := s_letter) l9 d9 k9, PySem.W.mg_of X G a9⟩
  have F10 : Fd K mg "_law_hearer" s_hearer := ⟨_, _, fun_mk (st := s_hearer) l10 d10 k10, PySem.W.mg_of X G a10⟩
  have F11 : Fd K mg "_law_do" s_do := ⟨_, _, fun_mk (st := s_do) l11 d11 k11, PySem.W.mg_of X G a11⟩
  have F12 : Fd K mg "_law_freed" s_freed := ⟨_, _, fun_mk (st := s_freed) l12 d12 k12, PySem.W.mg_of X G a12⟩
  have F13 : Fd K mg "_law_hear" s_hear := ⟨_, _, fun_mk (st := s_hear) l13 d13 k13, PySem.W.mg_of X G a13⟩
  have F14 : Fd K mg "_law_like" s_like := ⟨_, _, fun_mk (st := s_like) l14 d14 k14, PySem.W.mg_of X G a14⟩
  have F15 : Md K C_Hearer "look" "Hearer.look" s_Hearer_look := ⟨_, _, fun_mk (st := s_Hearer_look) l15 d15 k15, ⟨a15, i15, k15⟩⟩
  have F16 : Md K C_Hearer "known" "Hearer.known" s_Hearer_known := ⟨_, _, fun_mk (st := s_Hearer_known) l16 d16 k16, ⟨a16, i16, k16⟩⟩
  have F17 : Md K C_Hearer "held" "Hearer.held" s_Hearer_held := ⟨_, _, fun_mk (st := s_Hearer_held) l17 d17 k17, ⟨a17, i17, k17⟩⟩
  have F18 : Md K C_Hearer "whole" "Hearer.whole" s_Hearer_whole := ⟨_, _, fun_mk (st := s_Hearer_whole) l18 d18 k18, ⟨a18, i18, k18⟩⟩
  have F19 : Fd K mg "_law_is" s_is := ⟨_, _, fun_mk (st := s_is) l19 d19 k19, PySem.W.mg_of X G a19⟩
  have F20 : Kd K mg "Hearer" C_Hearer "Hearer.__init__" s_Hearer_init := ⟨_, _, fun_mk (st := s_Hearer_init) l20 d20 k20, ⟨mk_Hearer, a20, i20, kc_Hearer⟩, PySem.W.mg_of X G ac_Hearer⟩
  have F21 : Md K C_Hearer "do" "Hearer.do" s_Hearer_do := ⟨_, _, fun_mk (st := s_Hearer_do) l21 d21 k21, ⟨a21, i21, k21⟩⟩
  have F22 : Md K C_Hearer "freed" "Hearer.freed" s_Hearer_freed := ⟨_, _, fun_mk (st := s_Hearer_freed) l22 d22 k22, ⟨a22, i22, k22⟩⟩
  have F23 : Md K C_Hearer "changed" "Hearer.changed" s_Hearer_changed := ⟨_, _, fun_mk (st := s_Hearer_changed) l23 d23 k23, ⟨a23, i23, k23⟩⟩
  have F24 : Md K C_Hearer "copied" "Hearer.copied" s_Hearer_copied := ⟨_, _, fun_mk (st := s_Hearer_copied) l24 d24 k24, ⟨a24, i24, k24⟩⟩
  have F25 : Md K C_Hearer "hear" "Hearer.hear" s_Hearer_hear := ⟨_, _, fun_mk (st := s_Hearer_hear) l25 d25 k25, ⟨a25, i25, k25⟩⟩
  have F26 := fun_mk (st := s_law) l26 d26 k26
  refine ⟨PySem.W.fnOf "law" "law" (defArgs s_law) (defBody s_law) (defScope s_law) .none kV26 dc26 pm26 an26 cd26 ct26, fun s v => .of_eq rfl, fun base _ _ => ?_⟩
  have g_dice := ok_dice (P := l.prog) (w := w) (base := base) F1 Bm
  have g_next := ok_next (P := l.prog) (w := w) (base := base) F2 Bm
  have g_counts := ok_counts (P := l.prog) (w := w) (base := base) F3 Bm g_next
  have g_worth := ok_worth (P := l.prog) (w := w) (base := base) F4 Bm g_next
  have g_changes := ok_changes (P := l.prog) (w := w) (base := base) F5 Bm g_next g_worth
  have g_story := ok_story (P := l.prog) (w := w) (base := base) F6 Bm
  have g_part := ok_part (P := l.prog) (w := w) (base := base) F7 Bm
  have g_beat := ok_beat (P := l.prog) (w := w) (base := base) F8 Bm
  have g_letter := ok_letter1 (P := l.prog) (w := w) (base := base) F9 Bm g_next g_part g_beat
  have g_hearer := ok_onew (P := l.prog) (w := w) (base := base) F10 Bm
  have g_do := ok_odo (P := l.prog) (w := w) (base := base) F11 Bm
  have g_freed := ok_ofreed (P := l.prog) (w := w) (base := base) F12 Bm g_do
  have g_hear := ok_ohear (P := l.prog) (w := w) (base := base) F13 Bm g_do g_freed
  have g_like := ok_like (P := l.prog) (w := w) (base := base) F14 Bm
  have m_Hearer_look := ok_look (P := l.prog) (w := w) (base := base) F15 Bm CHearer
  have m_Hearer_known := ok_known (P := l.prog) (w := w) (base := base) F16 Bm CHearer
  have m_Hearer_held := ok_held (P := l.prog) (w := w) (base := base) F17 Bm CHearer
  have m_Hearer_whole := ok_whole (P := l.prog) (w := w) (base := base) F18 Bm CHearer
  have g_is := ok_ois (P := l.prog) (w := w) (base := base) F19 Bm CHearer g_like m_Hearer_look m_Hearer_known m_Hearer_held m_Hearer_whole
  have k_Hearer := ok_Hinit (P := l.prog) (w := w) (base := base) F20 Bm CHearer km_MOST_KEYS
  have m_Hearer_do := ok_do (P := l.prog) (w := w) (base := base) F21 Bm CHearer
  have m_Hearer_freed := ok_freed (P := l.prog) (w := w) (base := base) F22 Bm CHearer m_Hearer_do
  have m_Hearer_changed := ok_changed (P := l.prog) (w := w) (base := base) F23 Bm CHearer m_Hearer_do m_Hearer_freed
  have m_Hearer_copied := ok_copied (P := l.prog) (w := w) (base := base) F24 Bm CHearer m_Hearer_freed
  have m_Hearer_hear := ok_hear (P := l.prog) (w := w) (base := base) F25 Bm CHearer m_Hearer_changed m_Hearer_copied
  exact ok_law (P := l.prog) (w := w) (base := base) F26 Bm CHearer g_dice g_next g_counts g_changes g_story g_letter g_hearer g_hear g_is g_like k_Hearer m_Hearer_hear m_Hearer_held m_Hearer_known m_Hearer_whole
theorem walked {l : PySem.W.OpenLaw} {q : Program} {loose : List Str} {XP : (Str → Option Value) → Heap → Prop} {YP : World → Heap → Prop} {d : DefRec} {K : Params → PySem.W.Frag} (hn : l.most = some 63) (hdf : d.params.defaults = [])
    (hY : ∀ (w : World) (h : Heap), YP w h → (K w.params).In h)
    (F : ∀ (w : World) (mg : Str → Option Value) (fa : Addr) (h : Heap), (K w.params).In h → h.Ns mainGlobals mg → mg d.name = some (.ref fa) →
      ∃ fd : FuncData, (∀ (s : Shared) (u : Value), BindsTo s fd ⟨[u], []⟩ [("_law_script", u)]) ∧ ∀ base : Heap, (K w.params).In base → base.Ns mainGlobals mg → FnOk l.prog w (K w.params) mg base CX0 6 fa fd ["_law_script"] (spLaw (K w.params))) :
    PySem.W.WalkO q loose XP YP l.row.toRowW d [] (fun f vs => PySem.call f vs) :=
  L2.walk_of (n := 63) (k := 6) (x := "_law_script") (CX := fun _ => CX0) (sp := fun w => spLaw (K w.params)) hn (by decide) hdf ⟨rfl, by decide, by decide⟩ hY F (fun _ _ a ns hl hO hS => ⟨rfl, a, ns, rfl, hl, FzL.only hO hS, fun _ => rfl⟩) fun _ _ _ _ _ z => z
end Cu
open PySem PySem.W PyProof.Rows
set_option maxHeartbeats 0 in
theorem PySem.Challenge.cw_catchup_k03_hearers_holds : PySem.Challenge.rw_catchup_k03_hearers.Holds := by
  w_on; o_law; k_head; (case hw => w_witness2)
  k_fill
  refine Cu.walked (l := PySem.Challenge.rw_catchup_k03_hearers) rfl rfl (fun w h Y => PySem.W.kIn_of Y) ?F
  case F =>
    intro w mg fa h KX G hmg
    refine' Cu.facts KX G hmg ?b_len ?b_range ?b_int ?b_list ?b_tuple ?b_sorted ?b_min ?b_max ?b_sum ?b_set ?b_str ?b_isinstance ?b_enumerate ?b_zip ?b_bool ?b_dict ?c_MOST_KEYS ?ac_Hearer ?pg_Hearer ?hd_Hearer ?po_Hearer ?sa_Hearer ?no0_Hearer ?no1_Hearer ?no2_Hearer ?no3_Hearer ?a1 ?l1 ?d1 ?k1 ?a2 ?l2 ?d2 ?k2 ?a3 ?l3 ?d3 ?k3 ?a4 ?l4 ?d4 ?k4 ?a5 ?l5 ?d5 ?k5 ?a6 ?l6 ?d6 ?k6 ?a7 ?l7 ?d7 ?k7 ?a8 ?l8 ?d8 ?k8 ?a9 ?l9 ?d9 ?k9 ?a10 ?l10 ?d10 ?k10 ?a11 ?l11 ?d11 ?k11 ?a12 ?l12 ?d12 ?k12 ?a13 ?l13 ?d13 ?k13 ?a14 ?l14 ?d14 ?k14 ?a15 ?i15 ?l15 ?d15 ?k15 ?a16 ?i16 ?l16 ?d16 ?k16 ?a17 ?i17 ?l17 ?d17 ?k17 ?a18 ?i18 ?l18 ?d18 ?k18 ?a19 ?l19 ?d19 ?k19 ?a20 ?i20 ?l20 ?d20 ?k20 ?mk_Hearer ?kc_Hearer ?a21 ?i21 ?l21 ?d21 ?k21 ?a22 ?i22 ?l22 ?d22 ?k22 ?a23 ?i23 ?l23 ?d23 ?k23 ?a24 ?i24 ?l24 ?d24 ?k24 ?a25 ?i25 ?l25 ?d25 ?k25 ?a26 ?l26 ?d26 ?k26
    (case b_len => k_is)
    (case b_range => k_is)
    (case b_int => k_is)
    (case b_list => k_is)
    (case b_tuple => k_is)
    (case b_sorted => k_is)
    (case b_min => k_is)
    (case b_max => k_is)
    (case b_sum => k_is)
    (case b_set => k_is)
    (case b_str => k_is)
    (case b_isinstance => k_is)
    (case b_enumerate => k_is)
    (case b_zip => k_is)
    (case b_bool => k_is)
    (case b_dict => k_is)
    (case c_MOST_KEYS => k_is)
    (case ac_Hearer => k_is)
    (case pg_Hearer => k_is)
    (case hd_Hearer => k_is)
    (case po_Hearer => k_is)
    (case sa_Hearer => k_is)
    (case no0_Hearer => k_is)
    (case no1_Hearer => k_is)
    (case no2_Hearer => k_is)
    (case no3_Hearer => k_is)
    (case a1 => k_is)
    (case l1 => k_is)
    (case d1 => k_is)
    (case k1 => k_is)
    (case a2 => k_is)
    (case l2 => k_is)
    (case d2 => k_is)
    (case k2 => k_is)
    (case a3 => k_is)
    (case l3 => k_is)
    (case d3 => k_is)
    (case k3 => k_is)
    (case a4 => k_is)
    (case l4 => k_is)
    (case d4 => k_is)
    (case k4 => k_is)
    (case a5 => k_is)
    (case l5 => k_is)
    (case d5 => k_is)
    (case k5 => k_is)
    (case a6 => k_is)
    (case l6 => k_is)
    (case d6 => k_is)
    (case k6 => k_is)
    (case a7 => k_is)
    (case l7 => k_is)
    (case d7 => k_is)
    (case k7 => k_is)
    (case a8 => k_is)
    (case l8 => k_is)
    (case d8 => k_is)
    (case k8 => k_is)
    (case a9 => k_is)
    (case l9 => k_is)
    (case d9 => k_is)
    (case k9 => k_is)
    (case a10 => k_is)
    (case l10 => k_is)
    (case d10 => k_is)
    (case k10 => k_is)
    (case a11 => k_is)
    (case l11 => k_is)
    (case d11 => k_is)
    (case k11 => k_is)
    (case a12 => k_is)
    (case l12 => k_is)
    (case d12 => k_is)
    (case k12 => k_is)
    (case a13 => k_is)
    (case l13 => k_is)
    (case d13 => k_is)
    (case k13 => k_is)
    (case a14 => k_is)
    (case l14 => k_is)
    (case d14 => k_is)
    (case k14 => k_is)
    (case a15 => k_is)
    (case i15 => k_is)
    (case l15 => k_is)
    (case d15 => k_is)
    (case k15 => k_is)
    (case a16 => k_is)
    (case i16 => k_is)
    (case l16 => k_is)
    (case d16 => k_is)
    (case k16 => k_is)
    (case a17 => k_is)
    (case i17 => k_is)
    (case l17 => k_is)
    (case d17 => k_is)
    (case k17 => k_is)
    (case a18 => k_is)
    (case i18 => k_is)
    (case l18 => k_is)
    (case d18 => k_is)
    (case k18 => k_is)
    (case a19 => k_is)
    (case l19 => k_is)
    (case d19 => k_is)
    (case k19 => k_is)
    (case a20 => k_is)
    (case i20 => k_is)
    (case l20 => k_is)
    (case d20 => k_is)
    (case k20 => k_is)
    (case mk_Hearer => k_is)
    (case kc_Hearer => k_is)
    (case a21 => k_is)
    (case i21 => k_is)
    (case l21 => k_is)
    (case d21 => k_is)
    (case k21 => k_is)
    (case a22 => k_is)
    (case i22 => k_is)
    (case l22 => k_is)
    (case d22 => k_is)
    (case k22 => k_is)
    (case a23 => k_is)
    (case i23 => k_is)
    (case l23 => k_is)
    (case d23 => k_is)
    (case k23 => k_is)
    (case a24 => k_is)
    (case i24 => k_is)
    (case l24 => k_is)
    (case d24 => k_is)
    (case k24 => k_is)
    (case a25 => k_is)
    (case i25 => k_is)
    (case l25 => k_is)
    (case d25 => k_is)
    (case k25 => k_is)
    (case a26 => k_is)
    (case l26 => k_is)
    (case d26 => k_is)
    (case k26 => k_is)
#print axioms PySem.Challenge.cw_catchup_k03_hearers_holds
