import PyProof.Rows.All
import Wide.All
import OpenK.AllK
import Wide.FinOn
import KE.KStateDown
import HandS.ForMost
import HandS.ForExc
import HandS.Defaults
import HandS.TryMany
import HandS.SortRule
import HandS.SortInts
import HandS.SetFor
import HandS.More
import HandS.IsInst
import HandS.ExcIs
import HandS.Zip
import HandS.Evl
import HandS.Head0
import HandS.Head1
import HandS.Head2
import HandS.HeadEnd
import HandS.HeadHook1
import HandS.HeadHook2
import HandS.HeadHook3
import HandS.HeadHook4
import HandS.Conv
import HandS.SuiteRaise
import PySem.Challenge.RW_parcelwall_k02_parcels_come
set_option Elab.async false
set_option linter.all false
set_option maxRecDepth 100000
set_option maxHeartbeats 4000000
open PySem PySem.Spec PyProof.Rows L2
namespace Pw
/-! ### readings by short names -/
abbrev rAddI : R2 := rI0 fun i j => .int (i + j)
abbrev rSubI : R2 := rI0 fun i j => .int (i - j)
abbrev rMulI : R2 := rI CMul fun i j => .int (i * j)
abbrev rModP : R2 := rI (fun _ j => 0 < j) fun i j => .int (i % j)
abbrev rModN : R2 := rI (fun _ j => j ≠ 0) fun i j => .int (i.fmod j)
abbrev rDivP : R2 := rI CDiv fun i j => .int (i / j)
abbrev rPow : R2 := rI CPow fun i j => .int (i ^ j.toNat)
abbrev rNeg : V → Hp → VK → Prop := rU fun i => .int (-i)
abbrev rLt : R2 := rI0 fun i j => .bl (decide (i < j))
abbrev rLe : R2 := rI0 fun i j => .bl (decide (i ≤ j))
abbrev rGt : R2 := rI0 fun i j => .bl (decide (j < i))
abbrev rGe : R2 := rI0 fun i j => .bl (decide (j ≤ i))
abbrev rAddS : R2 := fun x y H Q => ∃ i j, x = .str i ∧ y = .str j ∧ i.length + j.length ≤ sizeLine ∧ Q (.str (i ++ j)) H
abbrev rIsNone : R2 := fun x y H Q => y = .non ∧ Q (.bl (decide (x = .non))) H
abbrev rNotNone : R2 := fun x y H Q => y = .non ∧ Q (.bl (!decide (x = .non))) H
abbrev rInSign : R2 := fun x y H Q => ∃ (c : Nat) (z : Str), x = .str ⟨#[c]⟩ ∧ y = .str z ∧ Q (.bl (decide (c ∈ z.cps.toList))) H
abbrev rNotInSign : R2 := fun x y H Q => ∃ (c : Nat) (z : Str), x = .str ⟨#[c]⟩ ∧ y = .str z ∧ Q (.bl (!decide (c ∈ z.cps.toList))) H
abbrev rLenSeq (K : PySem.W.Frag) : List V → Hp → VK → Prop := fun xs H Q => ∃ p ys, xs = [.ref p] ∧ (SqL K H p ys ∨ SqT K H p ys) ∧ Q (.int ys.length) H
abbrev rListOf (K : PySem.W.Frag) : List V → Hp → VK → Prop := fun xs H Q => ∃ p ys, xs = [.ref p] ∧ (SqL K H p ys ∨ SqT K H p ys) ∧ ∀ l, H l = none → Q (.ref l) (upd H l (.lst ys))
abbrev rLenStr : List V → Hp → VK → Prop := fun xs H Q => ∃ z, xs = [.str z] ∧ z.length ≤ sizeLine ∧ Q (.int z.length) H
abbrev rMax2 : List V → Hp → VK → Prop := fun xs H Q => ∃ i j, xs = [.int i, .int j] ∧ Q (.int (if j > i then j else i)) H
abbrev rMin2 : List V → Hp → VK → Prop := fun xs H Q => ∃ i j, xs = [.int i, .int j] ∧ Q (.int (if j < i then j else i)) H
abbrev rInsert : V → List V → Hp → VK → Prop := fun x vs H Q => ∃ (l : Addr) (xs : List V) (i : Int) (y : V), x = .ref l ∧ vs = [.int i, y] ∧ H l = some (.lst xs) ∧ xs.length < sizeLine ∧ 0 ≤ i ∧ i < 2 ^ 63 ∧ Q .non (upd H l (.lst (xs.take i.toNat ++ [y] ++ xs.drop i.toNat)))
abbrev rStrInt : List V → Hp → VK → Prop := fun xs H Q => ∃ i, xs = [.int i] ∧ i.natAbs.log2 < 1920 ∧ Q (.str (toString i)) H
abbrev rIntStr : List V → Hp → VK → Prop := fun xs H Q => ∃ a n, xs = [.str a] ∧ PySem.intText? a = some n ∧ a.length ≤ 640 ∧ Q (.int n) H
abbrev rJoin (K : PySem.W.Frag) : V → List V → Hp → VK → Prop := fun x xs H Q => ∃ a p, ∃ ys : List Str, x = .str a ∧ xs = [.ref p] ∧ (SqL K H p (ys.map V.str) ∨ SqT K H p (ys.map V.str)) ∧ (ys.map (·.length)).sum + ys.length * a.length ≤ 16777216 ∧ Q (.str (Txt.join a ys)) H
abbrev tRaise (E : XK) (C : Addr) : TS := fun _ _ H => E (.ref C) none H
/-! ### rules: a method's call, an instance made, within a try -/
/-- o.m(e, ..) within a try: what it raises is wished for at the slots as they stand -/
def tMethS (C : Addr) (m : Str) (sp : Sp) (E : L2.St → XK) (ta : TE) (t : TA) : TE := fun σ H Q => ta σ H fun x H1 => ∃ a dx fs, x = .ref a ∧ H1 a = some (.ins C dx fs) ∧ fs.lookup m = none ∧ t σ H1 fun vs H2 => sp (x :: vs) H2 Q (E σ)
theorem pe_methS {X : Cx} {CX : CXT} {k : Nat} {f C : Addr} {fd : FuncData} {ps : List Str} {sp : Sp} {E : L2.St → XK} {m : Str} {pos apos : Pos} {e o : Expr} {es : List Expr} {ta : TE} {t : TA} {pl : Sem Bool} (he : PE X o ta) (c : Cls X.K C) (hm : Meth X.K C m f)
    (F : FnOk X.prog X.w X.K X.mg X.base CX k f fd ps sp) (hr : Room k X.A) (hb : Binds X.K fd ps []) (hx : ∀ σ, PassesAt CX X σ (E σ)) (ha : PA X (e :: es) t)
    (hst : starEach (e :: es) X.env = (false, eval e X.env) :: starEach es X.env := by rfl) (hpl : (backTo pos (starEach es X.env)).any (·.1) = false := by rfl)
    (ht : eval (.Call (.Attribute o m apos) (e :: es) [] pos) X.env = (do
      let ov ← eval o X.env
      standAt apos.atName
      let (f, first) ← holding [ov] (getMethod ov m pl)
      callWith pos f first (backTo pos (starEach (e :: es) X.env)) (backToKw pos (keywordEach [] X.env))) := by rfl) :
    PE X (.Call (.Attribute o m apos) (e :: es) [] pos) (tMethS C m sp E ta t) := by
  refine ⟨fun pins s σ H Q I h => ?_⟩
  refine PySem.W.methodCall_KW (pl := pl) (thn (he.run pins s σ H _ I h) fun u s1 ⟨x, H1, I1, rx, a, dx, fs, ex, ea, l, q⟩ => ?_) ht
  subst ex
  obtain rfl : u = Value.ref a := rx
  refine getmeth_ok I1 ea c hm l ?_
  refine PySem.W.callWith_K (first := [.ref a]) (h₀ := X.base) I.ok.mod.kin hm.kp (thn (ha.run pos pins s1 σ H1 _ I1 q) fun us s2 ⟨vs, H2, I2, r, q2⟩ => ⟨I2.kIn, ?_⟩) hst hpl
  exact run_fnS (us := .ref a :: us) (vs := .ref a :: vs) F hr hb (hx σ) I2 (.cons rfl r) q2
/-! ### small words -/
theorem ifD {c A B : Prop} [Decidable c] (h1 : c → A) (h2 : ¬ c → B) : if decide c = true then A else B := by
  by_cases h : c
  · rw [decide_eq_true h, if_pos rfl]; exact h1 h
  · rw [decide_eq_false h, if_neg Bool.false_ne_true]; exact h2 h
theorem ifN {c A B : Prop} [Decidable c] (h1 : ¬ c → A) (h2 : c → B) : if (!decide c) = true then A else B := by
  by_cases h : c
  · rw [decide_eq_true h]; exact iteF (h2 h)
  · rw [decide_eq_false h]; exact iteT (h1 h)
theorem ifB {b : Bool} {A B : Prop} (h1 : b = true → A) (h2 : b = false → B) : if b = true then A else B := by
  cases b with
  | true => exact iteT (h1 rfl)
  | false => exact iteF (h2 rfl)
theorem ifNB {b : Bool} {A B : Prop} (h1 : b = false → A) (h2 : b = true → B) : if (!b) = true then A else B := by
  cases b with
  | true => exact iteF (h2 rfl)
  | false => exact iteT (h1 rfl)
theorem ifIs {b : Bool} {A B : Prop} (h : b = true) (a : A) : if b = true then A else B := by rw [h]; exact iteT a
theorem ifNo {b : Bool} {A B : Prop} (h : b = false) (a : B) : if b = true then A else B := by rw [h]; exact iteF a
/-! ### heaps -/
theorem updOld {H : Hp} {a p : Addr} {o u : HO} (h : H a = some o) (hp : H p = none) : upd H p u a = some o := by rw [upd_ne (ne_of_none h hp)]; exact h
theorem updNe {H : Hp} {a p : Addr} {o u : HO} (h : H a = some o) (hp : a ≠ p) : upd H p u a = some o := by rw [upd_ne hp]; exact h
theorem updFree {H : Hp} {p q : Addr} {o : HO} (h : upd H p o q = none) : H q = none := by
  by_cases e : q = p
  · subst e; rw [upd_same] at h; cases h
  · rw [upd_ne e] at h; exact h
theorem updFreeNe {H : Hp} {p q : Addr} {o : HO} (h : upd H p o q = none) : q ≠ p := fun e => by
  subst e; rw [upd_same] at h; cases h
theorem sameNew {H0 H : Hp} {p : Addr} {o : HO} (s : Same H0 H) (hp : H p = none) : Same H0 (upd H p o) := fun b u e => updOld (s b u e) hp
theorem sameMut {H0 H : Hp} {p : Addr} {o : HO} (s : Same H0 H) (hp : H0 p = none) : Same H0 (upd H p o) := fun b u e => by
  rw [upd_ne (ne_of_none e hp)]; exact s b u e
theorem sameGet {H H' : Hp} {a : Addr} {o : HO} (s : Same H H') (h : H a = some o) : H' a = some o := s a o h
/-! ### places in a list -/
theorem atI_of {xs : List V} {z : Int} {j : Nat} {v : V} (e : z = (j : Int)) (h : xs[j]? = some v) : atI xs z = some v := at_of e h
theorem mapGet {α : Type} {f : α → V} {xs : List α} {i : Nat} {v : V} (h : (xs.map f)[i]? = some v) : ∃ x, xs[i]? = some x ∧ v = f x := by
  rw [List.getElem?_map] at h
  cases e : xs[i]? with
  | none => rw [e] at h; cases h
  | some x => rw [e] at h; exact ⟨x, rfl, (Option.some.inj h).symm⟩
theorem getMap {α : Type} {f : α → V} {xs : List α} {i : Nat} {x : α} (h : xs[i]? = some x) : (xs.map f)[i]? = some (f x) := by
  rw [List.getElem?_map, h]; rfl
theorem atMap {α : Type} {f : α → V} {xs : List α} (d : α) {z : Int} (h0 : 0 ≤ z) (h1 : z < xs.length) : atI (xs.map f) z = some (f (xs.getD z.toNat d)) := by
  obtain ⟨x, hx⟩ : ∃ x, xs[z.toNat]? = some x := ⟨xs[z.toNat]'(by omega), List.getElem?_eq_getElem (by omega)⟩
  have e : xs.getD z.toNat d = x := by rw [List.getD_eq_getElem?_getD, hx]; rfl
  rw [e]
  exact at_of (j := z.toNat) (by omega) (getMap hx)
theorem atInt {xs : List Int} {z : Int} (h0 : 0 ≤ z) (h1 : z < xs.length) : atI (xs.map V.int) z = some (V.int (xs.getD z.toNat 0)) := atMap 0 h0 h1
theorem takeMore {α : Type} : ∀ {l : List α} {i : Nat} {x : α}, l[i]? = some x → l.take (i + 1) = l.take i ++ [x]
  | [], i, x, h => by simp at h
  | a :: l, 0, x, h => by
    have e : a = x := Option.some.inj h
    subst e; rfl
  | a :: l, i + 1, x, h => by
    have ih := takeMore (l := l) (i := i) (x := x) h
    show a :: l.take (i + 1) = a :: l.take i ++ [x]
    rw [ih]; rfl
theorem szLe {n : Nat} (h : n ≤ 100000) : n ≤ sizeLine := Nat.le_trans h (by decide)
theorem szLt {n : Nat} (h : n < 100000) : n < sizeLine := Nat.lt_of_lt_of_le h (by decide)
theorem getLt {α : Type} {xs : List α} {i : Nat} {x : α} (h : xs[i]? = some x) : i < xs.length := (List.getElem?_eq_some_iff.mp h).1
theorem getOf {α : Type} {xs : List α} {i : Nat} (h : i < xs.length) : ∃ x, xs[i]? = some x := ⟨xs[i], List.getElem?_eq_getElem h⟩
/-! ### a def of the text that holds its promise -/
def OkF (P : Program) (w : World) (K : PySem.W.Frag) (mg : Str → Option Value) (base : Heap) (CX : CXT) (k : Nat) (f : Addr) (ps : List Str) (sp : Sp) : Prop :=
  ∃ fd : FuncData, FnOk P w K mg base CX k f fd ps sp ∧ Binds K fd ps [] ∧ PySem.W.keepIn K (.ref f) = true
end Pw
namespace Pw
/-! ### the wall's class -/
structure TW (K : PySem.W.Frag) : Prop where
  cl : Cls K (He.ga K "Wall")
  nb : NoAttr K (He.ga K "Wall") "boxes"
  ni : NoAttr K (He.ga K "Wall") "inside"
  np : NoAttr K (He.ga K "Wall") "parcels"
  nt : NoAttr K (He.ga K "Wall") "today"
end Pw
namespace Pw
/-! ### loops behind a word that does not open by itself -/
@[irreducible] def ForG (J : It) (g : TG) (tb : TS) (D : Ends) (σ : L2.St) (H1 : Hp) : Prop := ∃ W : Nat → Nat → L2.St → Hp → Prop, (∃ m, W 0 m σ H1) ∧ ∀ i m σ H, W i m σ H →
  (J.stop i H ∧ D.nx σ H) ∨ (J.go i H ∧ ∃ N : L2.St → Hp → Prop, (∀ σ' H', N σ' H' → ∃ m', m' < m ∧ W (i + 1) m' σ' H') ∧ ∀ x H', J.yld i H x H' → g x σ H' fun σ2 H2 => tb { D with nx := N, ct := N, bk := D.nx } σ2 H2)
def tForP (wi : TI) (g : TG) (tb : TS) : TS := fun D σ H => wi σ H fun J H1 => ForG J g tb D σ H1
theorem tForP_eq (wi : TI) (g : TG) (tb : TS) : tForP wi g tb = tFor wi g tb := by
  funext D σ H
  unfold tForP tFor ForG
  rfl
theorem ps_forP {X : Cx} {tg iter : Expr} {body : List Stmt} {wi : TI} {g : TG} {tb : TS} {pos : Pos} (hp : PassesOwn (model X.prog X.w) X.A X.env X.xe) (hc : X.calm = true) (hi : PI X tg iter wi) (hg : PG X tg g) (hb : PSs X body tb)
    (hs : ∀ x, foldedSetIterable iter X.env x = pure x := by intro _; rfl) : PS X (.For tg iter body [] pos) (tForP wi g tb) := by
  rw [tForP_eq]
  exact ps_for hp hc hi hg hb hs
@[irreducible] def WhileG (tc : TT) (tb : TS) (D : Ends) (σ : L2.St) (H : Hp) : Prop := tWhile tc tb D σ H
def tWhileP (tc : TT) (tb : TS) : TS := fun D σ H => WhileG tc tb D σ H
theorem tWhileP_eq (tc : TT) (tb : TS) : tWhileP tc tb = tWhile tc tb := by
  funext D σ H
  unfold tWhileP WhileG
  rfl
theorem ps_whileP {X : Cx} {pos : Pos} {c : Expr} {body : List Stmt} {tc : TT} {tb : TS} (hp : PassesOwn (model X.prog X.w) X.A X.env X.xe) (hc : PT X c tc) (hb : PSs X body tb) : PS X (.While c body [] pos) (tWhileP tc tb) := by
  rw [tWhileP_eq]
  exact ps_while hp hc hb
section
variable {K : PySem.W.Frag} {g : TG} {tb : TS} {D : Ends} {σ : L2.St} {H : Hp}
theorem forList {a : Addr} {xs : List V} (Pv : Nat → L2.St → Hp → Prop) (h0 : Pv 0 σ H) (hl : ∀ i σ H, i ≤ xs.length → Pv i σ H → SqL K H a xs)
    (hs : ∀ i x σ H, xs[i]? = some x → Pv i σ H → g x σ H fun σ2 H2 => tb { D with nx := Pv (i + 1), ct := Pv (i + 1), bk := D.nx } σ2 H2) (hd : ∀ σ H, Pv xs.length σ H → D.nx σ H) : ForG (Itl K a) g tb D σ H := by
  unfold ForG
  exact for_list Pv h0 hl hs hd
theorem forTup {a : Addr} {xs : List V} (Pv : Nat → L2.St → Hp → Prop) (h0 : Pv 0 σ H) (hl : ∀ i σ H, i ≤ xs.length → Pv i σ H → SqT K H a xs)
    (hs : ∀ i x σ H, xs[i]? = some x → Pv i σ H → g x σ H fun σ2 H2 => tb { D with nx := Pv (i + 1), ct := Pv (i + 1), bk := D.nx } σ2 H2) (hd : ∀ σ H, Pv xs.length σ H → D.nx σ H) : ForG (Itt K a) g tb D σ H := by
  unfold ForG
  exact for_tup Pv h0 hl hs hd
theorem forRange {lo : Int} {n : Nat} (Pv : Nat → L2.St → Hp → Prop) (h0 : Pv 0 σ H)
    (hs : ∀ i σ H, i < n → Pv i σ H → g (.int (lo + i)) σ H fun σ2 H2 => tb { D with nx := Pv (i + 1), ct := Pv (i + 1), bk := D.nx } σ2 H2) (hd : ∀ σ H, Pv n σ H → D.nx σ H) : ForG (Itr lo n) g tb D σ H := by
  unfold ForG
  exact for_range Pv h0 hs hd
end
/-! ### comprehensions whose elements are known values -/
section
variable {K : PySem.W.Frag} {tt : TT} {te : TE} {vs : List Nat} {j : Nat} {σ : L2.St} {H1 : Hp} {D : Addr} {Qd : Hp → Prop}
theorem filterTake {α β : Type} {ns : List α} {p : α → Bool} {f : α → β} {i : Nat} {n : α} (h : ns[i]? = some n) : ((ns.take (i + 1)).filter p).map f = ((ns.take i).filter p).map f ++ (if p n = true then [f n] else []) := by
  rw [takeMore h, List.filter_append, List.map_append]
  congr 1
  by_cases c : p n = true
  · rw [if_pos c]; simp [c]
  · rw [if_neg c]; simp [c]
/-- [f(n) for n in ns if p(n)] -/
theorem lcMap {α : Type} {inj : α → V} {a : Addr} {ns : List α} (p : α → Bool) (f : α → V) (hD : H1 D = none) (hx : SqL K H1 a (ns.map inj)) (hlen : ns.length ≤ 50000) (hw : ∀ x, wipe ((wipe σ vs).set j (some x)) vs = wipe σ vs)
    (ht : ∀ (i : Nat) (n : α) H', ns[i]? = some n → Same H1 H' → ∀ T : Bool → Hp → Prop, (∀ H'', Same H' H'' → T (p n) H'') → tt ((wipe σ vs).set j (some (inj n))) H' T)
    (he : ∀ (i : Nat) (n : α) H', ns[i]? = some n → p n = true → Same H1 H' → ∀ Qv : VK, (∀ H'', Same H' H'' → Qv (f n) H'') → te ((wipe σ vs).set j (some (inj n))) H' Qv)
    (hd : ∀ H', Same H1 H' → H' D = some (.lst ((ns.filter p).map f)) → Qd H') :
    ∃ W : Nat → Nat → Hp → Prop, (∃ m, W 0 m (upd H1 D (.lst []))) ∧ ∀ i m H, W i m H →
      ((Itl K a).stop i H ∧ Qd H) ∨ ((Itl K a).go i H ∧ ∃ Nx : Hp → Prop, (∀ H', Nx H' → ∃ m', m' < m ∧ W (i + 1) m' H') ∧ ∀ x H', (Itl K a).yld i H x H' → gName j x (wipe σ vs) H' fun σ2 H2 => wipe σ2 vs = wipe σ vs ∧ tt σ2 H2 fun b H3 =>
        if b = true then te σ2 H3 fun y H4 => ∃ acc, H4 D = some (.lst acc) ∧ acc.length < sizeLine ∧ Nx (upd H4 D (.lst (acc ++ [y]))) else Nx H3) := by
  refine lc_list (K := K) (a := a) (xs := ns.map inj) (fun i H' => Same H1 H' ∧ H' D = some (.lst (((ns.take i).filter p).map f))) ⟨sameNew (Same.refl _) hD, upd_same⟩ (fun i H' _ q => q.1.seq hx) ?_ ?_
  · rintro i x H' hi ⟨s, hD'⟩
    obtain ⟨n, hn, rfl⟩ := mapGet hi
    refine ⟨hw _, ?_⟩
    refine ht i n H' hn s _ fun H3 s3 => ?_
    have e := filterTake (p := p) (f := f) hn
    refine ifB (fun c => ?_) (fun c => ?_)
    · refine he i n H3 hn c (s.trans s3) _ fun H4 s4 => ?_
      rw [if_pos c] at e
      refine ⟨_, s4 _ _ (s3 _ _ hD'), ?_, sameMut (s.trans (s3.trans s4)) hD, ?_⟩
      · have q1 : (((ns.take i).filter p).map f).length ≤ ns.length := by
          rw [List.length_map]
          exact Nat.le_trans (List.length_filter_le _ _) (by rw [List.length_take]; omega)
        exact szLt (by omega)
      · rw [e]; exact upd_same
    · rw [if_neg (by rw [c]; exact Bool.false_ne_true), List.append_nil] at e
      refine ⟨s.trans s3, ?_⟩
      rw [e]; exact s3 _ _ hD'
  · rintro H' ⟨s, hD'⟩
    rw [List.length_map, List.take_length] at hD'
    exact hd H' s hD'
/-- [f(i) for i in range(n) if p(i)] -/
theorem lcRng {lo : Int} {n : Nat} (p : Nat → Bool) (f : Nat → V) (hD : H1 D = none) (hlen : n ≤ 50000) (hw : ∀ x, wipe ((wipe σ vs).set j (some x)) vs = wipe σ vs)
    (ht : ∀ (i : Nat) H', i < n → Same H1 H' → ∀ T : Bool → Hp → Prop, (∀ H'', Same H' H'' → T (p i) H'') → tt ((wipe σ vs).set j (some (.int (lo + i)))) H' T)
    (he : ∀ (i : Nat) H', i < n → p i = true → Same H1 H' → ∀ Qv : VK, (∀ H'', Same H' H'' → Qv (f i) H'') → te ((wipe σ vs).set j (some (.int (lo + i)))) H' Qv)
    (hd : ∀ H', Same H1 H' → H' D = some (.lst (((List.range n).filter p).map f)) → Qd H') :
    ∃ W : Nat → Nat → Hp → Prop, (∃ m, W 0 m (upd H1 D (.lst []))) ∧ ∀ i m H, W i m H →
      ((Itr lo n).stop i H ∧ Qd H) ∨ ((Itr lo n).go i H ∧ ∃ Nx : Hp → Prop, (∀ H', Nx H' → ∃ m', m' < m ∧ W (i + 1) m' H') ∧ ∀ x H', (Itr lo n).yld i H x H' → gName j x (wipe σ vs) H' fun σ2 H2 => wipe σ2 vs = wipe σ vs ∧ tt σ2 H2 fun b H3 =>
        if b = true then te σ2 H3 fun y H4 => ∃ acc, H4 D = some (.lst acc) ∧ acc.length < sizeLine ∧ Nx (upd H4 D (.lst (acc ++ [y]))) else Nx H3) := by
  refine lc_range (lo := lo) (n := n) (fun i H' => Same H1 H' ∧ H' D = some (.lst (((List.range i).filter p).map f))) ⟨sameNew (Same.refl _) hD, upd_same⟩ ?_ ?_
  · rintro i H' hi ⟨s, hD'⟩
    refine ⟨hw _, ?_⟩
    refine ht i H' hi s _ fun H3 s3 => ?_
    have e : ((List.range (i + 1)).filter p).map f = ((List.range i).filter p).map f ++ (if p i = true then [f i] else []) := by
      rw [List.range_succ, List.filter_append, List.map_append]
      congr 1
      by_cases c : p i = true
      · rw [if_pos c]; simp [c]
      · rw [if_neg c]; simp [c]
    refine ifB (fun c => ?_) (fun c => ?_)
    · refine he i H3 hi c (s.trans s3) _ fun H4 s4 => ?_
      rw [if_pos c] at e
      refine ⟨_, s4 _ _ (s3 _ _ hD'), ?_, sameMut (s.trans (s3.trans s4)) hD, ?_⟩
      · have q1 : (((List.range i).filter p).map f).length ≤ i := by
          rw [List.length_map]
          exact Nat.le_trans (List.length_filter_le _ _) (by rw [List.length_range]; omega)
        exact szLt (by omega)
      · rw [e]; exact upd_same
    · rw [if_neg (by rw [c]; exact Bool.false_ne_true), List.append_nil] at e
      refine ⟨s.trans s3, ?_⟩
      rw [e]; exact s3 _ _ hD'
  · rintro H' ⟨s, hD'⟩
    exact hd H' s hD'
end
theorem filterAll {α : Type} (l : List α) : l.filter (fun _ => true) = l := by simp
/-- a new list is handed back -/
def RetNew (H : Hp) (Q : VK) (xs : List V) : Prop := ∀ H' p, Same H H' → H p = none → H' p = some (.lst xs) → Q (.ref p) H'
theorem RetNew.go {H H1 H' : Hp} {Q : VK} {xs : List V} {p : Addr} (k : RetNew H Q xs) (s : Same H H1) (s1 : Same H1 H') (hp : H1 p = none) (h : H' p = some (.lst xs)) : Q (.ref p) H' := k H' p (s.trans s1) (s.free hp) h
/-! ### the wall in the heap -/
def wf (l1 l2 l3 : Addr) (d : Int) : List (Str × V) := [("boxes", .ref l1), ("inside", .ref l2), ("parcels", .ref l3), ("today", .int d)]
theorem lk_here {k : Str} {v : V} {r : List (Str × V)} : List.lookup k ((k, v) :: r) = some v := by
  have e : (k == k) = true := beq_self_eq_true k
  simp only [List.lookup, e]
theorem lk_past {k g : Str} {v : V} {r : List (Str × V)} (h : (k == g) = false) : List.lookup k ((g, v) :: r) = List.lookup k r := by
  simp only [List.lookup, h]
theorem put_here {f : Str} {v x : V} {r : List (Str × V)} : putF f v ((f, x) :: r) = (f, v) :: r := if_pos rfl
theorem put_past {f g : Str} {v x : V} {r : List (Str × V)} (h : ¬ g = f) : putF f v ((g, x) :: r) = (g, x) :: putF f v r := if_neg h
section
variable {l1 l2 l3 : Addr} {d y : Int}
theorem wf_boxes : (wf l1 l2 l3 d).lookup ("boxes" : Str) = some (.ref l1) := lk_here
theorem wf_inside : (wf l1 l2 l3 d).lookup ("inside" : Str) = some (.ref l2) := (lk_past (by decide +kernel)).trans lk_here
theorem wf_parcels : (wf l1 l2 l3 d).lookup ("parcels" : Str) = some (.ref l3) := (lk_past (by decide +kernel)).trans ((lk_past (by decide +kernel)).trans lk_here)
theorem wf_today : (wf l1 l2 l3 d).lookup ("today" : Str) = some (.int d) := (lk_past (by decide +kernel)).trans ((lk_past (by decide +kernel)).trans ((lk_past (by decide +kernel)).trans lk_here))
theorem wf_none {m : Str} (h1 : (m == ("boxes" : Str)) = false) (h2 : (m == ("inside" : Str)) = false) (h3 : (m == ("parcels" : Str)) = false) (h4 : (m == ("today" : Str)) = false) : (wf l1 l2 l3 d).lookup m = none :=
  (lk_past h1).trans ((lk_past h2).trans ((lk_past h3).trans ((lk_past h4).trans rfl)))
theorem wf_sizes : (wf l1 l2 l3 d).lookup ("sizes" : Str) = none := wf_none (by decide +kernel) (by decide +kernel) (by decide +kernel) (by decide +kernel)
theorem wf_held : (wf l1 l2 l3 d).lookup ("held" : Str) = none := wf_none (by decide +kernel) (by decide +kernel) (by decide +kernel) (by decide +kernel)
theorem wf_day : (wf l1 l2 l3 d).lookup ("day" : Str) = none := wf_none (by decide +kernel) (by decide +kernel) (by decide +kernel) (by decide +kernel)
theorem wf_free : (wf l1 l2 l3 d).lookup ("free" : Str) = none := wf_none (by decide +kernel) (by decide +kernel) (by decide +kernel) (by decide +kernel)
theorem wf_see : (wf l1 l2 l3 d).lookup ("see" : Str) = none := wf_none (by decide +kernel) (by decide +kernel) (by decide +kernel) (by decide +kernel)
theorem wf_size_of : (wf l1 l2 l3 d).lookup ("size_of" : Str) = none := wf_none (by decide +kernel) (by decide +kernel) (by decide +kernel) (by decide +kernel)
theorem wf_left : (wf l1 l2 l3 d).lookup ("left" : Str) = none := wf_none (by decide +kernel) (by decide +kernel) (by decide +kernel) (by decide +kernel)
theorem wf_come : (wf l1 l2 l3 d).lookup ("come" : Str) = none := wf_none (by decide +kernel) (by decide +kernel) (by decide +kernel) (by decide +kernel)
theorem wf_fetch : (wf l1 l2 l3 d).lookup ("fetch" : Str) = none := wf_none (by decide +kernel) (by decide +kernel) (by decide +kernel) (by decide +kernel)
theorem wf_night : (wf l1 l2 l3 d).lookup ("night" : Str) = none := wf_none (by decide +kernel) (by decide +kernel) (by decide +kernel) (by decide +kernel)
theorem wf_move : (wf l1 l2 l3 d).lookup ("move" : Str) = none := wf_none (by decide +kernel) (by decide +kernel) (by decide +kernel) (by decide +kernel)
theorem wf_put : putF "today" (.int y) (wf l1 l2 l3 d) = wf l1 l2 l3 y := (put_past (by decide +kernel)).trans (congrArg _ ((put_past (by decide +kernel)).trans (congrArg _ ((put_past (by decide +kernel)).trans (congrArg _ put_here)))))
theorem wf_new : putF "today" (.int d) (putF "parcels" (.ref l3) (putF "inside" (.ref l2) (putF "boxes" (.ref l1) []))) = wf l1 l2 l3 d := by
  have e1 : putF "boxes" (.ref l1) [] = [(("boxes" : Str), V.ref l1)] := rfl
  have e2 : putF "inside" (.ref l2) [(("boxes" : Str), V.ref l1)] = [(("boxes" : Str), V.ref l1), ("inside", .ref l2)] := (put_past (by decide +kernel)).trans rfl
  have e3 : putF "parcels" (.ref l3) [(("boxes" : Str), V.ref l1), ("inside", .ref l2)] = [(("boxes" : Str), V.ref l1), ("inside", .ref l2), ("parcels", .ref l3)] := (put_past (by decide +kernel)).trans (congrArg _ ((put_past (by decide +kernel)).trans rfl))
  have e4 : putF "today" (.int d) [(("boxes" : Str), V.ref l1), ("inside", .ref l2), ("parcels", .ref l3)] = [(("boxes" : Str), V.ref l1), ("inside", .ref l2), ("parcels", .ref l3), ("today", .int d)] := (put_past (by decide +kernel)).trans (congrArg _ ((put_past (by decide +kernel)).trans (congrArg _ ((put_past (by decide +kernel)).trans rfl))))
  rw [e1, e2, e3, e4]; rfl
end
def optV : Option Nat → V
  | none => .non
  | some n => .int n
structure WS where
  w : Addr
  dx : Addr
  l1 : Addr
  l2 : Addr
  l3 : Addr
  sizes : List Int
  inside : List (Option Nat)
  parcels : List (Int × Int)
  today : Int
/-- a wall stands at s.w -/
structure WallAt (K : PySem.W.Frag) (H : Hp) (s : WS) : Prop where
  ob : H s.w = some (.ins (He.ga K "Wall") s.dx (wf s.l1 s.l2 s.l3 s.today))
  bx : H s.l1 = some (.lst (s.sizes.map V.int))
  is : H s.l2 = some (.lst (s.inside.map optV))
  ps : ∃ ts : List Addr, H s.l3 = some (.lst (ts.map V.ref)) ∧ ts.length = s.parcels.length ∧ ∀ (j : Nat) (t : Addr), ts[j]? = some t → H t = some (.tup [.int (s.parcels.getD j (0, 0)).1, .int (s.parcels.getD j (0, 0)).2])
  n12 : s.l1 ≠ s.l2
  n13 : s.l1 ≠ s.l3
  n23 : s.l2 ≠ s.l3
  len : s.inside.length = s.sizes.length
  l8 : s.sizes.length ≤ 8
  pl : s.parcels.length ≤ 1000
  nb : ∀ (j n : Nat), s.inside[j]? = some (some n) → n < s.parcels.length
theorem WallAt.mono {K : PySem.W.Frag} {H H' : Hp} {s : WS} (h : WallAt K H s) (e : Same H H') : WallAt K H' s :=
  ⟨e _ _ h.ob, e _ _ h.bx, e _ _ h.is, let ⟨ts, h1, h2, h3⟩ := h.ps; ⟨ts, e _ _ h1, h2, fun j t q => e _ _ (h3 j t q)⟩, h.n12, h.n13, h.n23, h.len, h.l8, h.pl, h.nb⟩
/-- all but the wall's own changing parts stands as it was -/
def Frm (s : WS) (H H' : Hp) : Prop := ∀ b o, H b = some o → b ≠ s.w → b ≠ s.l2 → b ≠ s.l3 → H' b = some o
/-- lists of sizes that make a wall; parcels' sizes -/
def OkW (ns : List Int) : Prop := 1 ≤ ns.length ∧ ns.length ≤ 8 ∧ ∀ x ∈ ns, 1 ≤ x ∧ x ≤ 9
def OkP (ns : List Int) : Prop := ∀ x ∈ ns, 1 ≤ x ∧ x ≤ 9
end Pw
namespace Pw
theorem putL {f : Str} {v : V} : ∀ {fs : List (Str × V)} {n : Nat}, fs.length ≤ n → (putF f v fs).length ≤ n + 1
  | [], n, h => by show 1 ≤ n + 1; omega
  | (g, x) :: r, n, h => by
    show (if g = f then (g, v) :: r else (g, x) :: putF f v r).length ≤ n + 1
    have h : r.length + 1 ≤ n := h
    by_cases c : g = f
    · rw [if_pos c]; show r.length + 1 ≤ n + 1; omega
    · rw [if_neg c]
      have ih := putL (f := f) (v := v) (fs := r) (n := n - 1) (by omega)
      show (putF f v r).length + 1 ≤ n + 1
      omega
theorem putL0 {f : Str} {v : V} : (putF f v []).length < 1000 := Nat.lt_of_le_of_lt (putL (Nat.le_refl 0)) (by decide)
theorem putL1 {f g : Str} {v u : V} : (putF f v (putF g u [])).length < 1000 := Nat.lt_of_le_of_lt (putL (putL (Nat.le_refl 0))) (by decide)
theorem putL2 {f g k : Str} {v u w : V} : (putF f v (putF g u (putF k w []))).length < 1000 := Nat.lt_of_le_of_lt (putL (putL (putL (Nat.le_refl 0)))) (by decide)
theorem wfL {l1 l2 l3 : Addr} {d : Int} : (wf l1 l2 l3 d).length < 1000 := by show 4 < 1000; decide
end Pw
namespace Pw
section
variable {K : PySem.W.Frag}
theorem kit_ii : PySem.W.kitOne K (.type "int") (.type "int") = some true := kit_ty (by decide +kernel)
theorem kit_ib : PySem.W.kitOne K (.type "int") (.type "bool") = some false := kit_ty (by decide +kernel)
theorem kit_il : PySem.W.kitOne K (.type "int") (.type "list") = some false := kit_ty (by decide +kernel)
theorem kit_is : PySem.W.kitOne K (.type "int") (.type "str") = some false := kit_ty (by decide +kernel)
theorem kit_ll : PySem.W.kitOne K (.type "list") (.type "list") = some true := kit_ty (by decide +kernel)
theorem kit_ls : PySem.W.kitOne K (.type "list") (.type "str") = some false := kit_ty (by decide +kernel)
theorem kit_ss : PySem.W.kitOne K (.type "str") (.type "str") = some true := kit_ty (by decide +kernel)
theorem kit_sl : PySem.W.kitOne K (.type "str") (.type "list") = some false := kit_ty (by decide +kernel)
theorem kit_tt : PySem.W.kitOne K (.type "tuple") (.type "tuple") = some true := kit_ty (by decide +kernel)
theorem kit_ns : PySem.W.kitOne K (.type "NoneType") (.type "str") = some false := kit_ty (by decide +kernel)
theorem kit_nl : PySem.W.kitOne K (.type "NoneType") (.type "list") = some false := kit_ty (by decide +kernel)
end
end Pw
namespace Pw
theorem leI {a b : Int} (h : a ≤ b) : a ≤ b := h
theorem ltI {a b : Int} (h : a < b) : a < b := h
theorem leN {a b : Nat} (h : a ≤ b) : a ≤ b := h
theorem ltN {a b : Nat} (h : a < b) : a < b := h
end Pw
namespace Pw
/-- a word at which the walk stops -/
structure Stop (P : Prop) : Prop where
  out : P
theorem insInt {xs : List Int} {n : Nat} {v : Int} : (xs.map V.int).take n ++ [V.int v] ++ (xs.map V.int).drop n = (xs.take n ++ [v] ++ xs.drop n).map V.int := by
  simp
theorem setInt {xs : List Int} {n : Nat} {v : Int} : (xs.map V.int).set n (V.int v) = (xs.set n v).map V.int := by
  rw [List.map_set]
theorem appInt {xs : List Int} {v : Int} : xs.map V.int ++ [V.int v] = (xs ++ [v]).map V.int := by
  simp
theorem getDlt {xs : List Int} {i : Nat} (hi : i < xs.length) : xs.getD i 0 = xs[i] := by rw [List.getD_eq_getElem?_getD, List.getElem?_eq_getElem hi]; rfl
theorem okGet {xs : List Int} (h : OkP xs) {i : Nat} (hi : i < xs.length) : 1 ≤ xs.getD i 0 ∧ xs.getD i 0 ≤ 9 := by
  rw [getDlt hi]
  exact h _ (List.getElem_mem hi)
theorem okSnoc {xs : List Int} {v : Int} (h : OkP xs) (h1 : 1 ≤ v ∧ v ≤ 9) : OkP (xs ++ [v]) := fun x hx => by
  rcases List.mem_append.mp hx with q | q
  · exact h x q
  · rw [List.mem_singleton.mp q]; exact h1
theorem okIns {xs : List Int} {v : Int} {n : Nat} (h : OkP xs) (h1 : 1 ≤ v ∧ v ≤ 9) : OkP (xs.take n ++ [v] ++ xs.drop n) := fun x hx => by
  rcases List.mem_append.mp hx with q | q
  · rcases List.mem_append.mp q with q | q
    · exact h x (List.mem_of_mem_take q)
    · rw [List.mem_singleton.mp q]; exact h1
  · exact h x (List.mem_of_mem_drop q)
theorem okSet {xs : List Int} {v : Int} {n : Nat} (h : OkP xs) (h1 : 1 ≤ v ∧ v ≤ 9) : OkP (xs.set n v) := fun x hx => by
  rcases List.mem_or_eq_of_mem_set hx with q | q
  · exact h x q
  · rw [q]; exact h1
theorem ixN_of {n : Nat} {i : Int} (h0 : 0 ≤ i) (h1 : i < n) : ixN n i = some i.toNat := by
  unfold ixN; rw [if_pos h0, if_pos h1]
end Pw
namespace Pw
/-! ### a statement, then the rest, with a word between them -/
@[irreducible] def CutG (t u : TS) (D : Ends) (σ : L2.St) (H : Hp) : Prop := Evl.tCut t u D σ H
def tCutP (t u : TS) : TS := fun D σ H => CutG t u D σ H
theorem tCutP_eq (t u : TS) : tCutP t u = Evl.tCut t u := by
  funext D σ H
  unfold tCutP CutG
  rfl
theorem pss_cutP {X : Cx} {st : Stmt} {rest : List Stmt} {t u : TS} (h1 : PS X st t) (h2 : PSs X rest u) : PSs X (st :: rest) (tCutP t u) := by
  rw [tCutP_eq]
  exact Evl.pss_cut h1 h2
theorem cut {t u : TS} {D : Ends} {σ : L2.St} {H : Hp} (Mid : L2.St → Hp → Prop) (h1 : t { D with nx := Mid } σ H) (h2 : ∀ σ' H', Mid σ' H' → u D σ' H') : CutG t u D σ H := by
  unfold CutG
  exact ⟨Mid, h1, h2⟩
end Pw
namespace Pw
theorem wallI {K : PySem.W.Frag} {H : Hp} {s : WS} (h : WallAt K H s) : WallAt K H s := h
end Pw
namespace Pw
theorem ifDT {c A B : Prop} [Decidable c] (h : c) (a : A) : if decide c = true then A else B := ifIs (decide_eq_true h) a
theorem ifDF {c A B : Prop} [Decidable c] (h : ¬ c) (b : B) : if decide c = true then A else B := ifNo (decide_eq_false h) b
theorem ifNT {c A B : Prop} [Decidable c] (h : ¬ c) (a : A) : if (!decide c) = true then A else B := ifIs (by rw [decide_eq_false h]; rfl) a
theorem ifNF {c A B : Prop} [Decidable c] (h : c) (b : B) : if (!decide c) = true then A else B := ifNo (by rw [decide_eq_true h]; rfl) b
end Pw
namespace Pw
theorem intEq {a b : Int} (h : a = b) : V.int a = V.int b := congrArg V.int h
theorem intNe {a b : Int} (h : a ≠ b) : ¬ V.int a = V.int b := fun e => h (V.int.inj e)
end Pw
namespace Pw
/-! ### rules at which the walk stops -/
@[irreducible] def rEqDI (K : PySem.W.Frag) : R2 := rEqD K
@[irreducible] def rNeDI (K : PySem.W.Frag) : R2 := rNeD K
@[irreducible] def rSortPO (K : PySem.W.Frag) : List V → Hp → VK → Prop := rSortedPO K
theorem op_eqDI {X : Cx} (hu : X.A.units + 64 < cLine) : OpR X (compareOp .Eq) (rEqDI X.K) := by unfold rEqDI; exact op_eqD hu
theorem op_neDI {X : Cx} (hu : X.A.units + 64 < cLine) : OpR X (compareOp .NotEq) (rNeDI X.K) := by unfold rNeDI; exact op_neD hu
theorem cr_sortPO {X : Cx} : CallR X (.builtin "sorted") (rSortPO X.K) := by unfold rSortPO; exact cr_sortedPO
end Pw
namespace Pw
/-! ### errors caught: what the classes say -/
def excCB (K : PySem.W.Frag) (D : Addr) : Bool :=
  He.eqO (PySem.W.findIn K (.ref D) "__getattribute__") (some (some (.builtin "BaseException.__getattribute__"))) && (He.eqO (PySem.W.findIn K (.ref D) "__getattr__") (some none) && (decide (PySem.W.subIn K (.ref D) (.type "BaseException") = some true) &&
  (PySem.W.hasDictIn K D && (He.eqO (PySem.W.findIn K (.ref D) "__class__") (some (some (.builtin "object.__class__"))) && (He.eqO (PySem.W.specialIn K (.builtin "object.__class__") "__get__") (some (some (.builtin "getset_descriptor.__get__"))) &&
  (decide (PySem.W.takesIn K (.builtin "object.__class__") = some true) && decide (PySem.W.mroIn K D (.type "object") = some true)))))))
theorem excC_of {K : PySem.W.Frag} {D : Addr} (h : excCB K D = true) : ExcC K D := by
  obtain ⟨h1, h⟩ := He.ba h
  obtain ⟨h2, h⟩ := He.ba h
  obtain ⟨h3, h⟩ := He.ba h
  obtain ⟨h4, h⟩ := He.ba h
  obtain ⟨h5, h⟩ := He.ba h
  obtain ⟨h6, h⟩ := He.ba h
  obtain ⟨h7, h8⟩ := He.ba h
  exact ⟨He.eqO_ok h1, He.eqO_ok h2, of_decide_eq_true h3, h4, He.eqO_ok h5, He.eqO_ok h6, of_decide_eq_true h7, of_decide_eq_true h8⟩
/-- whether an error of the class x is one of the class y -/
def isSub (x y : Str) : Bool := x == y || y == ("WallError" : Str)
def xsB (K : PySem.W.Frag) (l : List Str) : Bool := l.all fun x => excCB K (He.ga K x) && (decide (PySem.W.kitOne K (.ref (He.ga K x)) (.type "ValueError") = some true) &&
  l.all fun y => decide (PySem.W.kitOne K (.ref (He.ga K x)) (.ref (He.ga K y)) = some (isSub x y)) && decide (PySem.W.exmOne K (.ref (He.ga K x)) (.ref (He.ga K y)) = some (isSub x y)))
structure XS (K : PySem.W.Frag) (l : List Str) : Prop where
  b : xsB K l = true
namespace XS
variable {K : PySem.W.Frag} {l m : List Str}
theorem one (h : XS K l) {x : Str} (hx : x ∈ l) : ExcC K (He.ga K x) ∧ PySem.W.kitOne K (.ref (He.ga K x)) (.type "ValueError") = some true := by
  have q := List.all_eq_true.mp h.b x hx
  obtain ⟨h1, h2⟩ := He.ba q
  obtain ⟨h2, _⟩ := He.ba h2
  exact ⟨excC_of h1, of_decide_eq_true h2⟩
theorem two (h : XS K l) {x y : Str} (hx : x ∈ l) (hy : y ∈ l) : PySem.W.kitOne K (.ref (He.ga K x)) (.ref (He.ga K y)) = some (isSub x y) ∧ PySem.W.exmOne K (.ref (He.ga K x)) (.ref (He.ga K y)) = some (isSub x y) := by
  have q := List.all_eq_true.mp h.b x hx
  obtain ⟨_, q⟩ := He.ba q
  obtain ⟨_, q⟩ := He.ba q
  have q := List.all_eq_true.mp q y hy
  obtain ⟨h1, h2⟩ := He.ba q
  exact ⟨of_decide_eq_true h1, of_decide_eq_true h2⟩
theorem c (h : XS K l) {x : Str} (hx : x ∈ l) : ExcC K (He.ga K x) := (h.one hx).1
theorem v (h : XS K l) {x : Str} (hx : x ∈ l) : PySem.W.kitOne K (.ref (He.ga K x)) (.type "ValueError") = some true := (h.one hx).2
theorem kit (h : XS K l) {x y : Str} {b : Bool} (hx : x ∈ l) (hy : y ∈ l) (e : isSub x y = b) : PySem.W.kitOne K (.ref (He.ga K x)) (.ref (He.ga K y)) = some b := by rw [← e]; exact (h.two hx hy).1
theorem exm (h : XS K l) {x y : Str} {b : Bool} (hx : x ∈ l) (hy : y ∈ l) (e : isSub x y = b) : PySem.W.exmOne K (.ref (He.ga K x)) (.ref (He.ga K y)) = some b := by rw [← e]; exact (h.two hx hy).2
end XS
/-- isinstance(e, c), e the error that the suite holds, of the class cls -/
def rIsX (K : PySem.W.Frag) (cls : Value) (d : Option Addr) (a : Addr) : List V → Hp → VK → Prop := fun xs H Q => ∃ (D : Addr) (c : V) (cv : Value) (b : Bool), cls = .ref D ∧ d = none ∧ ExcC K D ∧ xs = [.ref a, c] ∧ (∀ u, RelV c u → u = cv) ∧ PySem.W.kitOne K (.ref D) cv = some b ∧ Q (.bl b) H
theorem call_isX {X : Cx} {a : Addr} {cls : Value} {d : Option Addr} {oe : Obj} {pn : List (Addr × Obj)} (hz : Zc cls d oe) (hf : ∃ vs, oe.data = .fields vs) : CallR (X.suite a ((a, oe) :: pn)) (.builtin "isinstance") (rIsX X.K cls d a) := by
  intro pins s σ H xs us Q I r h
  obtain ⟨D, c, cv, b, rfl, rfl, C, h⟩ := h
  exact call_isE C hz hf pins s σ H xs us Q I r ⟨c, cv, b, h⟩
def tTryAs (K : PySem.W.Frag) (c : Value) (i : Nat) (tb : WX → TS) (ts : Addr → Value → Option Addr → TS) (Wout : WX) : TS := fun D σ H => tb (wAs K c i ts Wout D) D σ H
def tTryOnly (K : PySem.W.Frag) (c : Value) (tb : WX → TS) (ts : Addr → Value → Option Addr → TS) (Wout : WX) : TS := fun D σ H => tb (wOnly K c ts Wout D) D σ H
def tTryMany (K : PySem.W.Frag) (l : List (Value × (Addr → Value → Option Addr → TS))) (tb : WX → TS) (Wout : WX) : TS := fun D σ H => tb (wMany K Wout D l) D σ H
abbrev wNone : WX := fun _ _ _ _ => False
abbrev wE (E : XK) : WX := fun cls d _ H => E cls d H
/-- C(e, ..) within a try -/
def tMakeS (C : Addr) (sp : Sp) (E : L2.St → XK) (t : TA) : TE := fun σ H Q => t σ H fun vs H1 => ∀ x dx, H1 x = none → H1 dx = none → dx ≠ x → sp (.ref x :: vs) (upd (upd H1 dx (.own x)) x (.ins C dx [])) (fun v H2 => v = .non ∧ Q (.ref x) H2) (E σ)
end Pw
namespace Pw
section
variable {X : Cx} {CX : CXT} {lv : Nat} {fI C : Addr} {gd : FuncData} {prs : List Str} {pr : Sp} {E : XK}
theorem makeAt {pins : List (Addr × Obj)} {σ : L2.St} {H : Hp} {st : Shared} {Q : VK} {us : List Value} {vs : List V} (M : Mk X.K C fI)
    (F : FnOk X.prog X.w X.K X.mg X.base CX lv fI gd prs pr) (room : Room (lv + 1) X.A) (bb : Binds X.K gd prs [])
    (pass : PassesAt CX X σ E) (I : Inv X pins σ H st) (rv : Vals vs us)
    (want : ∀ x dx, H x = none → H dx = none → dx ≠ x → pr (.ref x :: vs) (upd (upd H dx (.own x)) x (.ins C dx [])) (fun v H2 => v = .non ∧ Q (.ref x) H2) E) :
    wpAny (model X.prog X.w) X.A (call (.ref C) us) (EP X pins σ Q) X.xe st := by
  have want1 := want (st.heap.objs.size + 1) st.heap.objs.size (I.hok.fresh (Nat.le_succ _)) (I.hok.fresh (Nat.le_refl _))
    (Nat.ne_of_lt (Nat.lt_succ_self _))
  have J := Inv.made (C := C) I
  have rv1 : Vals (V.ref (st.heap.objs.size + 1) :: vs) (Value.ref (st.heap.objs.size + 1) :: us) := .cons rfl rv
  have len1 : (Value.ref (st.heap.objs.size + 1) :: us).length = prs.length :=
    rv1.length.symm.trans (F.len _ _ _ _ want1)
  have bb1 := bb _ (Value.ref (st.heap.objs.size + 1) :: us) J.kIn (by rw [List.append_nil]; exact len1)
  rw [List.append_nil] at bb1
  refine wpAny_call (make_map (f := fI) I.kIn M.makes M.init (beq_iff_eq.mp M.fn) ?_)
  refine codeAny_mono (F.run _ X.stack _ _ ⟨Value.ref (st.heap.objs.size + 1) :: us, []⟩ (Value.ref (st.heap.objs.size + 1) :: us) _ _ E
    (room.make C us []) (J.env0.make C us []) bb1 rv1 want1) fun res s2 got => ?_
  cases res with
  | error e => exact pass pins _ _ e s2 J got
  | ok fl =>
    cases fl with
    | ret u =>
      obtain ⟨v, H2, J2, ru, ev, q2⟩ := J.after got
      subst ev
      exact ⟨ru, ⟨V.ref (st.heap.objs.size + 1), H2, J2, rfl, q2⟩⟩
    | next => exact got.elim
    | brk => exact got.elim
    | cont => exact got.elim
theorem pe_makeS {EE : L2.St → XK} {x : Str} {p pos : Pos} {e : Expr} {es : List Expr} {t : TA} (M : Mk X.K C fI)
    (F : FnOk X.prog X.w X.K X.mg X.base CX lv fI gd prs pr) (room : Room (lv + 1) X.A) (hg : Gl X x) (hm : X.mg x = some (.ref C)) (bb : Binds X.K gd prs [])
    (pass : ∀ σ, PassesAt CX X σ (EE σ)) (ha : PA X (e :: es) t) (hdb : (x == ("__debug__" : Str)) = false := by decide)
    (he : starEach (e :: es) X.env = (false, eval e X.env) :: starEach es X.env := by rfl)
    (hpl : (backTo pos (starEach es X.env)).any (·.1) = false := by rfl) :
    PE X (.Call (.Name x p) (e :: es) [] pos) (tMakeS C pr EE t) := by
  refine ⟨fun pins s σ H Q I h => wpAny_Call_Name_kw (ld_glob I hg hm ?_ hdb)⟩
  refine PySem.W.callWith_K (h₀ := X.base) I.ok.mod.kin M.kp ?_ he hpl
  exact thn (ha.run pos pins s σ H _ I h) fun us s1 ⟨vs, H1, I1, r, q⟩ => ⟨I1.kIn, makeAt M F room bb (pass σ) I1 r q⟩
/-- o.m() within a try -/
theorem pe_methS0 {m : Str} {pos apos : Pos} {o : Expr} {ta : TE} {f : Addr} {fd : FuncData} {ps : List Str} {sp : Sp} {EE : L2.St → XK} {pl : Sem Bool} (he : PE X o ta) (c : Cls X.K C) (hm : Meth X.K C m f)
    (F : FnOk X.prog X.w X.K X.mg X.base CX lv f fd ps sp) (hr : Room lv X.A) (hb : Binds X.K fd ps []) (hx : ∀ σ, PassesAt CX X σ (EE σ))
    (ht : eval (.Call (.Attribute o m apos) [] [] pos) X.env = (do
      let ov ← eval o X.env
      standAt apos.atName
      let (f, first) ← holding [ov] (getMethod ov m pl)
      callWith pos f first (backTo pos (starEach [] X.env)) (backToKw pos (keywordEach [] X.env))) := by rfl) :
    PE X (.Call (.Attribute o m apos) [] [] pos) (tMethS C m sp EE ta tNil) := by
  refine ⟨fun pins s σ H Q I h => ?_⟩
  refine PySem.W.methodCall_KW (pl := pl) (thn (he.run pins s σ H _ I h) fun u s1 ⟨x, H1, I1, rx, a, dx, fs, ex, ea, l, q⟩ => ?_) ht
  subst ex
  obtain rfl : u = Value.ref a := rx
  refine getmeth_ok I1 ea c hm l ?_
  exact PySem.W.callWith_K0 (first := [.ref a]) I1.kIn hm.kp (run_fnS (us := [.ref a]) (vs := [.ref a]) F hr hb (hx σ) I1 (.cons rfl .nil) q)
end
end Pw
namespace Pw
theorem relRef {a : Addr} : ∀ u, RelV (V.ref a) u → u = Value.ref a := fun _ h => h
theorem relTy {t : String} : ∀ u, RelV (V.ty t) u → u = Value.type t := fun _ h => h
theorem qRefl {Q : VK} {H : Hp} {x : V} (h : Q (.bl true) H) : Q (.bl (decide (x = x))) H := by rw [decide_eq_true rfl]; exact h
theorem qDec {Q : VK} {H : Hp} {p : Prop} [Decidable p] (hp : p) (h : Q (.bl true) H) : Q (.bl (decide p)) H := by rw [decide_eq_true hp]; exact h
theorem inAll {l n : List Str} (h : (n.all fun x => l.contains x) = true) {x : Str} (hx : x ∈ n) : x ∈ l := List.contains_iff_mem.mp (List.all_eq_true.mp h x hx)
theorem listInt {H : Hp} {p : Addr} {ns : List Nat} (h : H p = some (.lst (ns.map fun i : Nat => V.int (i : Int)))) : H p = some (.lst ((ns.map fun i : Nat => (i : Int)).map V.int)) := by rw [h, List.map_map]; rfl
theorem repOpt {ns : List Int} : ns.map (fun _ => V.non) = (List.replicate ns.length (none : Option Nat)).map optV := by
  rw [List.map_replicate]
  induction ns with
  | nil => rfl
  | cons x r ih => rw [List.map_cons, List.length_cons, List.replicate_succ, ih]; rfl
theorem freeLen (l : List (Option Nat)) : ((List.range l.length).filter fun i => (l.getD i none).isNone).length ≤ l.length := by
  have h := List.length_filter_le (fun i => (l.getD i none).isNone) (List.range l.length)
  rw [List.length_range] at h; exact h
end Pw
namespace Pw
theorem intNon {i : Int} : ¬ V.int i = V.non := fun h => by cases h
theorem strNe {a b : Str} (h : a ≠ b) : ¬ V.str a = V.str b := fun e => h (V.str.inj e)
end Pw
namespace Pw
abbrev rInN (K : PySem.W.Frag) : R2 := fun x y H Q => ∃ p xs, y = .ref p ∧ (SqL K H p xs ∨ SqT K H p xs) ∧ flatV x = true ∧ xs.all flatV = true ∧ Q (.bl (!inV x xs)) H
theorem op_notInN {X : Cx} : OpR X (compareOp .NotIn) (rInN X.K) := op_notIn_seq
end Pw
namespace Pw
theorem cmulL {i j : Int} (h : -(2 ^ 64) < i ∧ i < 2 ^ 64) : CMul i j := .inl h
theorem cmulR {i j : Int} (h : -(2 ^ 64) < j ∧ j < 2 ^ 64) : CMul i j := .inr h
theorem cpow109 : CPow 10 9 := ⟨by decide, by decide, by decide⟩
end Pw
local macro_rules | `(tactic| walk_at "arith") => `(tactic| first | omega | (simp only [List.length_map, List.length_append, List.length_cons, List.length_nil, List.length_take, List.length_replicate, List.length_range, Int.zero_add, Int.toNat_natCast] at *; omega))
local macro_rules | `(tactic| walk_at "same") => `(tactic| first
  | assumption
  | exact Same.refl _
  | (refine Pw.sameNew ?_ ?_; (walk_at "same"); (walk_at "free"))
  | (refine Pw.sameMut ?_ ?_; (walk_at "same"); (walk_at "free"))
  | (refine Same.trans (H1 := ?mid) ?s1 ?s2; (case s2 => assumption); (case s1 => walk_at "same")))
local macro_rules | `(tactic| walk_at "free") => `(tactic| first
  | assumption
  | (refine Pw.updFree (p := ?pp) (o := ?oo) ?f; (case f => assumption))
  | (refine Same.free (H' := ?mid) ?s ?f; (case f => assumption); (case s => walk_at "same")))
local macro_rules | `(tactic| walk_at "ne") => `(tactic| first
  | assumption
  | (apply Ne.symm; assumption)
  | (refine ne_of_none (H := ?hh) (o := ?oo) ?h1 ?h2; (case h2 => assumption); (case h1 => walk_at "heap"))
  | (apply Ne.symm; refine ne_of_none (H := ?hh) ?h1 ?h2; (case h2 => assumption); (case h1 => walk_at "heap")))
local macro_rules | `(tactic| walk_at "heap") => `(tactic| first
  | assumption
  | exact upd_same
  | (refine Pw.updOld (o := ?oo) ?h ?f; (case h => walk_at "heap"); (case f => walk_at "free"))
  | (refine Pw.updNe (o := ?oo) ?h ?n; (case h => walk_at "heap"); (case n => walk_at "ne"))
  | (refine Pw.sameGet (H := ?hh) (o := ?oo) ?s ?h; (case s => assumption); (case h => walk_at "heap")))
local macro_rules | `(tactic| walk_at "sq") => `(tactic| first
  | assumption
  | (refine Same.seq (H := ?hh) (xs := ?xx) ?s ?h; (case h => assumption); (case s => walk_at "same"))
  | (refine SqL.of (xs := ?xx) ?h; (case h => walk_at "heap"))
  | (refine SqT.of (xs := ?xx) ?h; (case h => walk_at "heap")))
local macro_rules | `(tactic| walk_at "wall") => `(tactic| first
  | assumption
  | (refine Pw.WallAt.mono (H := ?hh) ?h ?s; (case h => assumption); (case s => walk_at "same")))
local macro_rules | `(tactic| walk_at "leaf") => `(tactic| first
  | with_reducible rfl
  | with_reducible exact Pw.kit_ii
  | with_reducible exact Pw.relRef
  | with_reducible exact Pw.relTy
  | with_reducible exact Pw.kit_ib
  | with_reducible exact Pw.kit_ll
  | with_reducible exact Pw.kit_tt
  | with_reducible exact Pw.kit_ss
  | with_reducible exact Pw.kit_il
  | with_reducible exact Pw.kit_is
  | with_reducible exact Pw.kit_ls
  | with_reducible exact Pw.kit_sl
  | with_reducible exact Pw.kit_ns
  | with_reducible exact Pw.kit_nl
  | with_reducible assumption
  | (with_reducible refine Pw.leI ?_; (first | walk_at "arith" | exact Pw.szLe (by walk_at "arith") | exact Pw.szLt (by walk_at "arith") | decide))
  | (with_reducible refine Pw.ltI ?_; (first | walk_at "arith" | exact Pw.szLe (by walk_at "arith") | exact Pw.szLt (by walk_at "arith") | decide))
  | (with_reducible refine Pw.leN ?_; (first | walk_at "arith" | exact Pw.szLe (by walk_at "arith") | exact Pw.szLt (by walk_at "arith") | decide))
  | (with_reducible refine Pw.ltN ?_; (first | walk_at "arith" | exact Pw.szLe (by walk_at "arith") | exact Pw.szLt (by walk_at "arith") | decide))
  | rfl
  | assumption
  | with_reducible exact Pw.wf_boxes
  | with_reducible exact Pw.wf_inside
  | with_reducible exact Pw.wf_parcels
  | with_reducible exact Pw.wf_today
  | with_reducible exact Pw.wf_sizes
  | with_reducible exact Pw.wf_held
  | with_reducible exact Pw.wf_day
  | with_reducible exact Pw.wf_free
  | with_reducible exact Pw.wf_see
  | with_reducible exact Pw.wf_size_of
  | with_reducible exact Pw.wf_left
  | with_reducible exact Pw.wf_come
  | with_reducible exact Pw.wf_fetch
  | with_reducible exact Pw.wf_night
  | with_reducible exact Pw.wf_move
  | exact ClsV.ty _
  | exact ClsV.own _
  | with_reducible exact TyX.base (TyOf.int _)
  | with_reducible exact TyX.base (TyOf.bl _)
  | with_reducible exact TyX.base (TyOf.str _)
  | with_reducible exact TyX.base TyOf.non
  | (refine TyX.base (TyOf.lst (xs := ?xx) ?q); (case q => walk_at "heap"))
  | (refine TyX.base (TyOf.tup (xs := ?xx) ?q); (case q => walk_at "heap"))
  | with_reducible exact Pw.putL0
  | with_reducible exact Pw.putL1
  | with_reducible exact Pw.putL2
  | with_reducible exact Pw.wfL
  | walk_at "sq"
  | walk_at "heap"
  | walk_at "arith"
  | (with_reducible refine Pw.wallI ?h; (case h => walk_at "wall"))
  | (refine Or.inl ?q; (case q => walk_at "sq"))
  | (refine Or.inr ?q; (case q => walk_at "sq"))
  | (refine Exists.intro ?ww ?q; (case q => walk_at "sq"))
  | (refine Or.inl (And.intro rfl (Exists.intro ?ww ?q)); (case q => walk_at "sq"))
  | (refine Or.inl (And.intro ?r (Exists.intro ?ww ?q)); (case r => rfl); (case q => walk_at "sq"))
  | exact Pw.atInt (by walk_at "arith") (by walk_at "arith")
  | with_reducible exact Pw.cpow109
  | (with_reducible refine Pw.cmulL ?_; decide)
  | (with_reducible refine Pw.cmulR ?_; decide)
  | decide)
local macro_rules | `(tactic| walk_at "sure") => `(tactic| first | with_reducible assumption | with_reducible rfl | with_reducible exact Pw.intNon | (with_reducible refine Pw.strNe ?_; decide +kernel) | (with_reducible refine Pw.intEq ?_; walk_at "arith") | (with_reducible refine Pw.intNe ?_; walk_at "arith") | walk_at "arith")
local macro_rules | `(tactic| walk_at "if") => `(tactic| first
  | (with_reducible refine Pw.ifDT ?c ?_; (case c => walk_at "sure"))
  | (with_reducible refine Pw.ifDF ?c ?_; (case c => walk_at "sure"))
  | (with_reducible refine Pw.ifNT ?c ?_; (case c => walk_at "sure"))
  | (with_reducible refine Pw.ifNF ?c ?_; (case c => walk_at "sure")))
local macro_rules | `(tactic| walk_at "go") => `(tactic| repeat (first | apply Exists.intro | (refine And.intro ?l ?_; (case l => walk_at "leaf")) | walk_at "if"))
namespace Pw
/-- what the law draws -/
def drawn (ns : List Int) (k many : Int) : Int :=
  let cell := if 0 < (ns.length : Int) then ns.getD (k.fmod ns.length).toNat 0 else 7
  let s1 := (cell * 48271 + (k + 1) * 7919 + ns.length) % 2147483647
  let s2 := (s1 * s1 + k * 16807 + 11) % 2147483647
  (s2 * 48271 % 2147483647 / 16).fmod many
theorem drawn_in (ns : List Int) (k : Int) {many : Int} (h : 0 < many) : 0 ≤ drawn ns k many ∧ drawn ns k many < many := by
  unfold drawn
  exact ⟨Int.fmod_nonneg_of_pos _ h, Int.fmod_lt_of_pos _ h⟩
def sp_law_drawn (K : PySem.W.Frag) : Sp := fun vs H Q _ => ∃ (a : Addr) (ns : List Int) (k many : Int), vs = [.ref a, .int k, .int many] ∧ SqL K H a (ns.map V.int) ∧ ns.length ≤ 63 ∧ 0 < many ∧
  (0 ≤ drawn ns k many → drawn ns k many < many → Q (.int (drawn ns k many)) H)
theorem len_law_drawn {K : PySem.W.Frag} : ∀ vs H Q E, sp_law_drawn K vs H Q E → vs.length = 3 := by
  rintro vs H Q E ⟨_, _, _, _, rfl, _⟩
  rfl
def t_law_drawn (K : PySem.W.Frag) (E : XK) : TS :=
  tSeq (tAsg (tC (.int 7)) (gName 3))
    (tSeq (tIfS (tTest (tOp rGt (tCB (rLenSeq K) (tCons (tVar 0) tNil)) (tC (.int 0)))) (tAsg (tOp (rIxL K) (tVar 0) (tOp rModN (tVar 1) (tCB (rLenSeq K) (tCons (tVar 0) tNil)))) (gName 3)) (tNext))
    (tSeq (tAsg (tOp rModP (tOp rAddI (tOp rAddI (tOp rMulI (tVar 3) (tC (.int 48271))) (tOp rMulI (tOp rAddI (tVar 1) (tC (.int 1))) (tC (.int 7919)))) (tCB (rLenSeq K) (tCons (tVar 0) tNil))) (tC (.int 2147483647))) (gName 4))
    (tSeq (tAsg (tOp rModP (tOp rAddI (tOp rAddI (tOp rMulI (tVar 4) (tVar 4)) (tOp rMulI (tVar 1) (tC (.int 16807)))) (tC (.int 11))) (tC (.int 2147483647))) (gName 4))
    (tRet (tOp rModN (tOp rDivP (tOp rModP (tOp rMulI (tVar 4) (tC (.int 48271))) (tC (.int 2147483647))) (tC (.int 16))) (tVar 2))))))
theorem pure_law_drawn {K : PySem.W.Frag} (vs : List V) (H : Hp) (Q : VK) (E : XK) (h : sp_law_drawn K vs H Q E) : t_law_drawn K E { nx := fun _ H' => Q .non H', rt := Q } (start ["script", "k", "many", "cell", "stir"] vs) H := by
  obtain ⟨a, ns, k, many, rfl, hS, hl, hm, q⟩ := h
  have hd := drawn_in ns k hm
  have q := q hd.1 hd.2
  have fin : ∀ cell : Int, cell = (if 0 < (ns.length : Int) then ns.getD (k.fmod ns.length).toNat 0 else 7) → ∀ σ : L2.St, σ = [some (.ref a), some (.int k), some (.int many), some (.int cell), none] →
      (tSeq (tAsg (tOp rModP (tOp rAddI (tOp rAddI (tOp rMulI (tVar 3) (tC (.int 48271))) (tOp rMulI (tOp rAddI (tVar 1) (tC (.int 1))) (tC (.int 7919)))) (tCB (rLenSeq K) (tCons (tVar 0) tNil))) (tC (.int 2147483647))) (gName 4))
    (tSeq (tAsg (tOp rModP (tOp rAddI (tOp rAddI (tOp rMulI (tVar 4) (tVar 4)) (tOp rMulI (tVar 1) (tC (.int 16807)))) (tC (.int 11))) (tC (.int 2147483647))) (gName 4))
    (tRet (tOp rModN (tOp rDivP (tOp rModP (tOp rMulI (tVar 4) (tC (.int 48271))) (tC (.int 2147483647))) (tC (.int 16))) (tVar 2))))) { nx := fun _ H' => Q .non H', rt := Q } σ H := by
    intro cell ec σ es
    subst es
    have b1 := Int.emod_nonneg (cell * 48271 + (k + 1) * 7919 + ((ns.map V.int).length : Int)) (show (2147483647 : Int) ≠ 0 by decide)
    have b2 := Int.emod_lt_of_pos (cell * 48271 + (k + 1) * 7919 + ((ns.map V.int).length : Int)) (show (0 : Int) < 2147483647 by decide)
    walk_at "go"
    refine ⟨.inl ⟨by omega, by omega⟩, ?_⟩
    walk_at "go"
    refine ⟨⟨by decide, by decide⟩, ?_⟩
    walk_at "go"
    have e : drawn ns k many = ((((cell * 48271 + (k + 1) * 7919 + ns.length) % 2147483647 * ((cell * 48271 + (k + 1) * 7919 + ns.length) % 2147483647) + k * 16807 + 11) % 2147483647) * 48271 % 2147483647 / 16).fmod many := by
      unfold drawn; rw [← ec]
    rw [e] at q
    rw [List.length_map]
    exact q
  unfold t_law_drawn
  walk_at "go"
  refine ifD (fun h1 => ?_) (fun h1 => ?_)
  · walk_at "go"
    rw [List.length_map] at h1 ⊢
    have f1 := Int.fmod_nonneg_of_pos k h1
    have f2 := Int.fmod_lt_of_pos k h1
    refine ⟨atInt f1 f2, ?_⟩
    refine fin _ ?_ _ rfl
    rw [if_pos h1]
  · refine fin 7 ?_ _ rfl
    rw [List.length_map] at h1
    rw [if_neg h1]
end Pw
namespace Pw
def sp_law_sizes_by (K : PySem.W.Frag) : Sp := fun vs H Q _ => ∃ (a : Addr) (ns : List Int) (b : Int), vs = [.ref a, .int b] ∧ SqL K H a (ns.map V.int) ∧ ns.length ≤ 63 ∧ ∀ sizes : List Int, OkW sizes → RetNew H Q (sizes.map V.int)
theorem len_law_sizes_by {K : PySem.W.Frag} : ∀ vs H Q E, sp_law_sizes_by K vs H Q E → vs.length = 2 := by
  rintro vs H Q E ⟨_, _, _, rfl, _⟩
  rfl
def t_law_sizes_by (K : PySem.W.Frag) (E : XK) : TS :=
  tSeq (tAsg (tOp rAddI (tC (.int 1)) (tCall (sp_law_drawn K) [] E0 (tCons (tVar 0) (tCons (tVar 1) (tCons (tC (.int 8)) tNil))))) (gName 2))
    (tSeq (tAsg (tOp (rIxL K) (tLst (tCons (tC (.int 3)) (tCons (tC (.int 5)) (tCons (tC (.int 9)) tNil)))) (tCall (sp_law_drawn K) [] E0 (tCons (tVar 0) (tCons (tOp rAddI (tVar 1) (tC (.int 1))) (tCons (tC (.int 3)) tNil))))) (gName 3))
    (tRet (tLc (iRng1 (tCons (tVar 2) tNil)) (gName 4) tYes (tOp rAddI (tC (.int 1)) (tCall (sp_law_drawn K) [] E0 (tCons (tVar 0) (tCons (tOp rAddI (tOp rAddI (tVar 1) (tC (.int 2))) (tVar 4)) (tCons (tVar 3) tNil))))) [4])))
theorem pure_law_sizes_by {K : PySem.W.Frag} (vs : List V) (H : Hp) (Q : VK) (E : XK) (h : sp_law_sizes_by K vs H Q E) : t_law_sizes_by K E { nx := fun _ H' => Q .non H', rt := Q } (start ["script", "base", "many", "top", "k"] vs) H := by
  obtain ⟨a, ns, b, rfl, hS, hl, k⟩ := h
  unfold t_law_sizes_by
  walk_at "go"
  intro d0 d1
  walk_at "go"
  intro p hp
  walk_at "go"
  intro e0 e1
  walk_at "go"
  refine ⟨atInt (xs := [3, 5, 9]) e0 e1, ?_⟩
  have ht : 1 ≤ ([3, 5, 9] : List Int).getD (drawn ns (b + 1) 3).toNat 0 ∧ ([3, 5, 9] : List Int).getD (drawn ns (b + 1) 3).toNat 0 ≤ (9 : Int) := by
    have q : (drawn ns (b + 1) 3).toNat = 0 ∨ (drawn ns (b + 1) 3).toNat = 1 ∨ (drawn ns (b + 1) 3).toNat = 2 := by omega
    rcases q with q | q | q <;> rw [q] <;> decide
  generalize ([3, 5, 9] : List Int).getD (drawn ns (b + 1) 3).toNat 0 = top at ht ⊢
  generalize drawn ns b 8 = many at d0 d1 ⊢
  walk_at "go"
  intro D hD
  have hS1 : SqL K (upd H p (.lst [V.int 3, V.int 5, V.int 9])) a (ns.map V.int) := (sameNew (Same.refl _) hp).seq hS
  refine lcRng (n := (1 + many).toNat) (fun _ => true) (fun i : Nat => V.int (1 + drawn ns (b + 2 + (0 + (i : Int))) top)) hD (by omega) (fun _ => rfl) (fun i H' hi s' TT k' => ?_) (fun i H' hi _ s' Qv k' => ?_) (fun H' s' hD' => ?_)
  · exact k' _ (Same.refl _)
  · walk_at "go"
    intro d2 d3
    walk_at "go"
    exact k' _ (Same.refl _)
  · rw [filterAll] at hD'
    refine k ((List.range (1 + many).toNat).map fun i : Nat => 1 + drawn ns (b + 2 + (0 + (i : Int))) top) ⟨by simp; omega, by simp; omega, ?_⟩ _ D ((sameNew (Same.refl _) hp).trans s') (updFree hD) ?_
    · intro x hx
      obtain ⟨i, _, rfl⟩ := List.mem_map.mp hx
      have := drawn_in ns (b + 2 + (0 + (i : Int))) (many := top) (by omega)
      omega
    · rw [hD', List.map_map]; rfl
end Pw
namespace Pw
def sp_is_size (K : PySem.W.Frag) : Sp := fun vs H Q _ => ∃ n : Int, vs = [.int n] ∧ Q (.bl (decide (1 ≤ n ∧ n ≤ 9))) H
theorem len_is_size {K : PySem.W.Frag} : ∀ vs H Q E, sp_is_size K vs H Q E → vs.length = 1 := by
  rintro vs H Q E ⟨_, rfl, _⟩
  rfl
def t_is_size (K : PySem.W.Frag) (E : XK) : TS :=
  tRet (tAndV (tOp rLe (tC (.int 1)) (tVar 0)) (tOp rLe (tVar 0) (tC (.int 9))))
theorem pure_is_size {K : PySem.W.Frag} (vs : List V) (H : Hp) (Q : VK) (E : XK) (h : sp_is_size K vs H Q E) : t_is_size K E { nx := fun _ H' => Q .non H', rt := Q } (start ["number"] vs) H := by
  obtain ⟨n, rfl, k⟩ := h
  unfold t_is_size
  walk_at "go"
  refine ifD (fun h1 => ?_) (fun h1 => ?_)
  · walk_at "go"
    simpa [h1] using k
  · simpa [h1] using k
end Pw
namespace Pw
def sp_Wall_init (K : PySem.W.Frag) : Sp := fun vs H Q E => ∃ (w dx a : Addr) (ns : List Int), vs = [.ref w, .ref a] ∧ H w = some (.ins (He.ga K "Wall") dx []) ∧ SqL K H a (ns.map V.int) ∧ ns.length ≤ 1000 ∧
  (OkW ns → ∀ H' l1 l2 l3, WallAt K H' ⟨w, dx, l1, l2, l3, ns, List.replicate ns.length none, [], 0⟩ → H l1 = none → H l2 = none → H l3 = none → (∀ b o, H b = some o → b ≠ w → H' b = some o) → Q .non H') ∧
  (¬ OkW ns → E (.ref (He.ga K "NoWall")) none H)
theorem len_Wall_init {K : PySem.W.Frag} : ∀ vs H Q E, sp_Wall_init K vs H Q E → vs.length = 2 := by
  rintro vs H Q E ⟨_, _, _, _, rfl, _⟩
  rfl
def t_Wall_init (K : PySem.W.Frag) (E : XK) : TS :=
  tSeq (tIfS (tOr (tTest (tOp rLt (tCB (rLenSeq K) (tCons (tVar 1) tNil)) (tC (.int 1)))) (tTest (tOp rGt (tCB (rLenSeq K) (tCons (tVar 1) tNil)) (tC (.int 8))))) (tRaise E (He.ga K "NoWall")) (tNext))
    (tSeq (tForP (iList K (tVar 1)) (gName 2) (tIfS (tNot (tB (tCall (sp_is_size K) [] E0 (tCons (tVar 2) tNil)))) (tRaise E (He.ga K "NoWall")) (tNext)))
    (tSeq (sFld K (tVar 0) (tCB (rListOf K) (tCons (tVar 1) tNil)) "boxes")
    (tSeq (sFld K (tVar 0) (tLc (iList K (tVar 1)) (gName 2) tYes (tC .non) [2]) "inside")
    (tSeq (sFld K (tVar 0) (tLst tNil) "parcels")
    (sFld K (tVar 0) (tC (.int 0)) "today")))))
theorem pure_Wall_init {K : PySem.W.Frag} (T : TW K) (vs : List V) (H : Hp) (Q : VK) (E : XK) (h : sp_Wall_init K vs H Q E) : t_Wall_init K E { nx := fun _ H' => Q .non H', rt := Q } (start ["self", "sizes", "size"] vs) H := by
  obtain ⟨w, dx, a, ns, rfl, hw, hS, hl, k, kE⟩ := h
  obtain ⟨tcl, tnb, tni, tnp, tnt⟩ := id T
  unfold t_Wall_init
  walk_at "go"
  simp only [List.length_map]
  refine ifD (fun c => ?_) (fun c => ?_)
  · exact kE fun o => by have := o.1; omega
  walk_at "go"
  simp only [List.length_map]
  refine ifD (fun c2 => ?_) (fun c2 => ?_)
  · exact kE fun o => by have := o.2.1; omega
  walk_at "go"
  refine forList (K := K) (a := a) (xs := ns.map V.int) (fun i σ H' => ∃ v : Option V, σ = [some (.ref w), some (.ref a), v] ∧ H' = H ∧ ∀ x ∈ ns.take i, 1 ≤ x ∧ x ≤ 9) ⟨none, rfl, rfl, by simp⟩ ?_ ?_ ?_
  · rintro i σ H' _ ⟨v, _, rfl, _⟩
    exact hS
  · rintro i x σ H' hi ⟨v, rfl, rfl, ha⟩
    obtain ⟨n, hn, rfl⟩ := mapGet hi
    walk_at "go"
    refine ifN (fun c => ?_) (fun c => ?_)
    · refine kE fun o => c (o.2.2 n (List.mem_of_getElem? hn))
    · walk_at "go"
      intro x hx
      rw [takeMore hn] at hx
      rcases List.mem_append.mp hx with q | q
      · exact ha x q
      · rw [List.mem_singleton.mp q]; exact c
  · rintro σ H' ⟨v, rfl, rfl, ha⟩
    rw [List.length_map, List.take_length] at ha
    have ok : OkW ns := ⟨by omega, by omega, ha⟩
    walk_at "go"
    intro l1 h1
    have n1 : w ≠ l1 := ne_of_none hw h1
    have hS2 : SqL K (upd (upd H' l1 (.lst (ns.map V.int))) w (.ins (He.ga K "Wall") dx (putF "boxes" (.ref l1) []))) a (ns.map V.int) := by
      rcases hS with (q | ⟨o, q⟩) | q
      · refine .inl (.inl ?_)
        rw [upd_ne (ne_of q hw (by intro z; cases z)), upd_ne (ne_of_none q h1)]; exact q
      · refine .inl (.inr ⟨o, ?_⟩)
        rw [upd_ne (ne_of q hw (by intro z; cases z)), upd_ne (ne_of_none q h1)]; exact q
      · exact .inr q
    walk_at "go"
    intro l2 h2
    refine lcMap (fun _ => true) (fun _ => V.non) h2 hS2 (by omega) (fun _ => rfl) (fun i n H3 _ s3 TT k' => ?_) (fun i n H3 _ _ s3 Qv k' => ?_) (fun H3 s3 hD => ?_)
    · exact k' _ (Same.refl _)
    · exact k' _ (Same.refl _)
    rw [filterAll] at hD
    have f1 : H' l2 = none := updFree (updFree h2)
    have n2 : w ≠ l2 := ne_of_none hw f1
    have n12 : l2 ≠ l1 := fun e => by
      rw [e, upd_ne n1.symm, upd_same] at h2
      cases h2
    have hw3 : H3 w = some (.ins (He.ga K "Wall") dx (putF "boxes" (.ref l1) [])) := s3 _ _ upd_same
    have hl1 : H3 l1 = some (.lst (ns.map V.int)) := s3 _ _ (by rw [upd_ne n1.symm]; exact upd_same)
    walk_at "go"
    intro l3 h3
    have h3' : H3 l3 = none := by
      have n : l3 ≠ w := fun e => by rw [e, upd_same] at h3; cases h3
      rw [upd_ne n] at h3; exact h3
    have n3 : w ≠ l3 := ne_of_none hw3 h3'
    have n13 : l1 ≠ l3 := ne_of_none hl1 h3'
    have n23 : l2 ≠ l3 := ne_of_none hD h3'
    walk_at "go"
    have fr3 : H' l3 = none := by
      cases q : H' l3 with
      | none => rfl
      | some o =>
        have := s3 l3 o (by rw [upd_ne n3.symm, upd_ne n13.symm]; exact q)
        rw [h3'] at this; cases this
    refine k ok _ l1 l2 l3 ⟨?_, ?_, ?_, ?_, n12.symm, n13, n23, by simp, ok.2.1, by simp, ?_⟩ h1 f1 fr3 ?_
    · rw [upd_same]
      exact congrArg (fun q => some (HO.ins (He.ga K "Wall") dx q)) wf_new
    · show upd _ w _ l1 = _
      rw [upd_ne n1.symm, upd_ne n1.symm, upd_ne n13, upd_ne n1.symm]; exact hl1
    · show upd _ w _ l2 = _
      rw [upd_ne n2.symm, upd_ne n2.symm, upd_ne n23, upd_ne n2.symm, hD]
      have e : ∀ l : List Int, l.map (fun _ => V.non) = (List.replicate l.length (none : Option Nat)).map optV := fun l => by
        rw [List.map_replicate]
        induction l with
        | nil => rfl
        | cons x r ih => rw [List.map_cons, List.length_cons, List.replicate_succ, ih]; rfl
      rw [e]
    · refine ⟨[], ?_, rfl, fun j t q => by simp at q⟩
      show upd _ w _ l3 = _
      rw [upd_ne n3.symm, upd_ne n3.symm, upd_same]; rfl
    · intro j n q
      have q : (List.replicate ns.length none)[j]? = some (some n) := q
      rw [List.getElem?_replicate] at q
      split at q
      · cases q
      · cases q
    · intro b o e hb
      rw [upd_ne hb, upd_ne hb, upd_ne (fun z => by rw [z, fr3] at e; cases e), upd_ne hb]
      exact s3 b o (by rw [upd_ne hb, upd_ne (fun z => by rw [z, h1] at e; cases e)]; exact e)
theorem newWall {K : PySem.W.Frag} {H : Hp} {a : Addr} {zs : List Int} {Q : Addr → Hp → Prop} {E : XK} (hA : SqL K H a (zs.map V.int)) (ok : OkW zs)
    (k : ∀ x dx l1 l2 l3 H', Same H H' → WallAt K H' ⟨x, dx, l1, l2, l3, zs, List.replicate zs.length none, [], 0⟩ → H x = none → H l1 = none → H l2 = none → H l3 = none → Q x H') :
    ∀ x dx, H x = none → H dx = none → dx ≠ x → sp_Wall_init K [.ref x, .ref a] (upd (upd H dx (.own x)) x (.ins (He.ga K "Wall") dx [])) (fun v H2 => v = .non ∧ Q x H2) E := by
  intro x dx hx hdx hne
  have s3 : Same H (upd (upd H dx (.own x)) x (.ins (He.ga K "Wall") dx [])) := sameNew (sameNew (Same.refl _) hdx) (by rw [upd_ne (Ne.symm hne)]; exact hx)
  have l8 := ok.2.1
  refine ⟨x, dx, a, zs, rfl, upd_same, s3.seq hA, by omega, fun _ H2 l1 l2 l3 A n1 n2 n3 fr => ?_, fun nok => absurd ok nok⟩
  exact ⟨rfl, k x dx l1 l2 l3 H2 (fun c o e => fr c o (s3 c o e) (ne_of_none e hx)) A hx (s3.free n1) (s3.free n2) (s3.free n3)⟩
end Pw
namespace Pw
def sp_Wall_day (K : PySem.W.Frag) : Sp := fun vs H Q _ => ∃ (s : WS), WallAt K H s ∧ vs = [.ref s.w] ∧ Q (.int s.today) H
theorem len_Wall_day {K : PySem.W.Frag} : ∀ vs H Q E, sp_Wall_day K vs H Q E → vs.length = 1 := by
  rintro vs H Q E ⟨_, _, rfl, _⟩
  rfl
def t_Wall_day (K : PySem.W.Frag) (E : XK) : TS :=
  tRet (tFld K (tVar 0) "today")
theorem pure_Wall_day {K : PySem.W.Frag} (T : TW K) (vs : List V) (H : Hp) (Q : VK) (E : XK) (h : sp_Wall_day K vs H Q E) : t_Wall_day K E { nx := fun _ H' => Q .non H', rt := Q } (start ["self"] vs) H := by
  obtain ⟨s, A, rfl, k⟩ := h
  obtain ⟨tcl, tnb, tni, tnp, tnt⟩ := id T
  have hob := A.ob
  unfold t_Wall_day
  walk_at "go"
  exact k
end Pw
namespace Pw
def sp_law_whole (K : PySem.W.Frag) : Sp := fun vs H Q _ => ∃ (n : Int), vs = [.int n] ∧ Q (.bl true) H
theorem len_law_whole {K : PySem.W.Frag} : ∀ vs H Q E, sp_law_whole K vs H Q E → vs.length = 1 := by
  rintro vs H Q E ⟨_, rfl, _⟩
  rfl
def t_law_whole (K : PySem.W.Frag) (E : XK) : TS :=
  tRet (tAndV (tCB (rIsi K) (tCons (tVar 0) (tCons (tC (.ty "int")) tNil))) (tNotV (tCB (rIsi K) (tCons (tVar 0) (tCons (tC (.ty "bool")) tNil)))))
theorem pure_law_whole {K : PySem.W.Frag} (vs : List V) (H : Hp) (Q : VK) (E : XK) (h : sp_law_whole K vs H Q E) : t_law_whole K E { nx := fun _ H' => Q .non H', rt := Q } (start ["found"] vs) H := by
  obtain ⟨n, rfl, k⟩ := h
  unfold t_law_whole
  walk_at "go"
  exact k
end Pw
namespace Pw
def sp_law_row (K : PySem.W.Frag) : Sp := fun vs H Q _ => ∃ (f d : Addr) (ns : List Int), vs = [.ref f, .ref d] ∧ H f = some (.lst (ns.map V.int)) ∧ SqL K H d (ns.map V.int) ∧ ns.length ≤ 1000 ∧ Q (.bl true) H
theorem len_law_row {K : PySem.W.Frag} : ∀ vs H Q E, sp_law_row K vs H Q E → vs.length = 2 := by
  rintro vs H Q E ⟨_, _, _, rfl, _⟩
  rfl
def t_law_row (K : PySem.W.Frag) (E : XK) : TS :=
  tSeq (tIfS (tOr (tNot (tB (tCB (rIsi K) (tCons (tVar 0) (tCons (tC (.ty "list")) tNil))))) (tTest (tOp rNe (tCB (rLenSeq K) (tCons (tVar 0) tNil)) (tCB (rLenSeq K) (tCons (tVar 1) tNil))))) (tRet (tC (.bl false))) (tNext))
    (tSeq (tForP (iRng1 (tCons (tCB (rLenSeq K) (tCons (tVar 1) tNil)) tNil)) (gName 2) (tIfS (tOr (tNot (tB (tCall (sp_law_whole K) [] E0 (tCons (tOp (rIxL K) (tVar 0) (tVar 2)) tNil)))) (tTest (tOp rNe (tOp (rIxL K) (tVar 0) (tVar 2)) (tOp (rIxL K) (tVar 1) (tVar 2))))) (tRet (tC (.bl false))) (tNext)))
    (tRet (tC (.bl true))))
theorem pure_law_row {K : PySem.W.Frag} (vs : List V) (H : Hp) (Q : VK) (E : XK) (h : sp_law_row K vs H Q E) : t_law_row K E { nx := fun _ H' => Q .non H', rt := Q } (start ["found", "due", "k"] vs) H := by
  obtain ⟨f, d, ns, rfl, hF, hD, hl, k⟩ := h
  unfold t_law_row
  walk_at "go"
  refine forRange (n := (((ns.map V.int).length : Nat) : Int).toNat) (fun i σ H' => Stop (∃ v : Option V, σ = [some (.ref f), some (.ref d), v] ∧ H' = H)) ⟨none, rfl, rfl⟩ ?_ ?_
  · rintro i σ H' hi ⟨v, rfl, rfl⟩
    have hi : i < ns.length := by simpa using hi
    walk_at "go"
    exact ⟨_, rfl, rfl⟩
  · rintro σ H' ⟨v, rfl, rfl⟩
    walk_at "go"
    exact k
end Pw
namespace Pw
def sp_law_held (K : PySem.W.Frag) : Sp := fun vs H Q _ => ∃ (f d : Addr) (hs : List (Option Nat)), vs = [.ref f, .ref d] ∧ H f = some (.lst (hs.map optV)) ∧ SqL K H d (hs.map optV) ∧ hs.length ≤ 1000 ∧ Q (.bl true) H
theorem len_law_held {K : PySem.W.Frag} : ∀ vs H Q E, sp_law_held K vs H Q E → vs.length = 2 := by
  rintro vs H Q E ⟨_, _, _, rfl, _⟩
  rfl
def t_law_held (K : PySem.W.Frag) (E : XK) : TS :=
  tSeq (tIfS (tOr (tNot (tB (tCB (rIsi K) (tCons (tVar 0) (tCons (tC (.ty "list")) tNil))))) (tTest (tOp rNe (tCB (rLenSeq K) (tCons (tVar 0) tNil)) (tCB (rLenSeq K) (tCons (tVar 1) tNil))))) (tRet (tC (.bl false))) (tNext))
    (tSeq (tForP (iRng1 (tCons (tCB (rLenSeq K) (tCons (tVar 1) tNil)) tNil)) (gName 2) (tIfS (tTest (tOp rIsNone (tOp (rIxL K) (tVar 1) (tVar 2)) (tC .non))) (tIfS (tTest (tOp rNotNone (tOp (rIxL K) (tVar 0) (tVar 2)) (tC .non))) (tRet (tC (.bl false))) (tNext)) (tIfS (tOr (tNot (tB (tCall (sp_law_whole K) [] E0 (tCons (tOp (rIxL K) (tVar 0) (tVar 2)) tNil)))) (tTest (tOp rNe (tOp (rIxL K) (tVar 0) (tVar 2)) (tOp (rIxL K) (tVar 1) (tVar 2))))) (tRet (tC (.bl false))) (tNext))))
    (tRet (tC (.bl true))))
theorem pure_law_held {K : PySem.W.Frag} (vs : List V) (H : Hp) (Q : VK) (E : XK) (h : sp_law_held K vs H Q E) : t_law_held K E { nx := fun _ H' => Q .non H', rt := Q } (start ["found", "due", "k"] vs) H := by
  obtain ⟨f, d, hs, rfl, hF, hD, hl, k⟩ := h
  unfold t_law_held
  walk_at "go"
  refine forRange (n := (((hs.map optV).length : Nat) : Int).toNat) (fun i σ H' => Stop (∃ v : Option V, σ = [some (.ref f), some (.ref d), v] ∧ H' = H)) ⟨none, rfl, rfl⟩ ?_ ?_
  · rintro i σ H' hi ⟨v, rfl, rfl⟩
    have hi : i < hs.length := by simpa using hi
    have at_ : atI (hs.map optV) ((0 : Int) + i) = some (optV (hs.getD ((0 : Int) + i).toNat none)) := atMap none (by omega) (by omega)
    generalize hs.getD ((0 : Int) + i).toNat none = x at at_
    cases x with
    | none =>
      have at_ : atI (hs.map optV) ((0 : Int) + i) = some .non := at_
      walk_at "go"
      exact ⟨_, rfl, rfl⟩
    | some n =>
      have at_ : atI (hs.map optV) ((0 : Int) + i) = some (.int n) := at_
      walk_at "go"
      exact ⟨_, rfl, rfl⟩
  · rintro σ H' ⟨v, rfl, rfl⟩
    walk_at "go"
    exact k
end Pw
namespace Pw
def sp_Wall_sizes (K : PySem.W.Frag) : Sp := fun vs H Q _ => ∃ (s : WS), WallAt K H s ∧ vs = [.ref s.w] ∧ RetNew H Q (s.sizes.map V.int)
theorem len_Wall_sizes {K : PySem.W.Frag} : ∀ vs H Q E, sp_Wall_sizes K vs H Q E → vs.length = 1 := by
  rintro vs H Q E ⟨_, _, rfl, _⟩
  rfl
def t_Wall_sizes (K : PySem.W.Frag) (E : XK) : TS :=
  tRet (tCB (rListOf K) (tCons (tFld K (tVar 0) "boxes") tNil))
theorem pure_Wall_sizes {K : PySem.W.Frag} (T : TW K) (vs : List V) (H : Hp) (Q : VK) (E : XK) (h : sp_Wall_sizes K vs H Q E) : t_Wall_sizes K E { nx := fun _ H' => Q .non H', rt := Q } (start ["self"] vs) H := by
  obtain ⟨s, A, rfl, k⟩ := h
  obtain ⟨tcl, tnb, tni, tnp, tnt⟩ := id T
  have hob := A.ob
  have hbx := A.bx
  unfold t_Wall_sizes
  walk_at "go"
  intro p hp
  exact k _ p (sameNew (Same.refl _) hp) hp upd_same
end Pw
namespace Pw
def sp_Wall_held (K : PySem.W.Frag) : Sp := fun vs H Q _ => ∃ (s : WS), WallAt K H s ∧ vs = [.ref s.w] ∧ RetNew H Q (s.inside.map optV)
theorem len_Wall_held {K : PySem.W.Frag} : ∀ vs H Q E, sp_Wall_held K vs H Q E → vs.length = 1 := by
  rintro vs H Q E ⟨_, _, rfl, _⟩
  rfl
def t_Wall_held (K : PySem.W.Frag) (E : XK) : TS :=
  tRet (tCB (rListOf K) (tCons (tFld K (tVar 0) "inside") tNil))
theorem pure_Wall_held {K : PySem.W.Frag} (T : TW K) (vs : List V) (H : Hp) (Q : VK) (E : XK) (h : sp_Wall_held K vs H Q E) : t_Wall_held K E { nx := fun _ H' => Q .non H', rt := Q } (start ["self"] vs) H := by
  obtain ⟨s, A, rfl, k⟩ := h
  obtain ⟨tcl, tnb, tni, tnp, tnt⟩ := id T
  have hob := A.ob
  have his := A.is
  unfold t_Wall_held
  walk_at "go"
  intro p hp
  exact k _ p (sameNew (Same.refl _) hp) hp upd_same
end Pw
namespace Pw
/-! ### data that is compared as a whole -/
structure PlD (n : Nat) (d : PyData) : Prop where
  c : d.canLay0 = true
  dp : d.depth ≤ n
theorem plInt (i : Int) : PlD 0 (.int i) := ⟨by simp [PyData.canLay0], by simp [PyData.depth]⟩
theorem plBool (b : Bool) : PlD 0 (.bool b) := ⟨by simp [PyData.canLay0], by simp [PyData.depth]⟩
theorem plStr (x : Str) (h : PyData.strOk x = true) : PlD 0 (.str x) := ⟨by simp [PyData.canLay0, h], by simp [PyData.depth]⟩
theorem plNone : PlD 0 .none := ⟨by simp [PyData.canLay0], by simp [PyData.depth]⟩
theorem PlD.up {n m : Nat} {d : PyData} (h : PlD n d) (hm : n ≤ m) : PlD m d := ⟨h.c, Nat.le_trans h.dp hm⟩
theorem plAll {n : Nat} : ∀ {ds : List PyData}, (∀ d ∈ ds, PlD n d) → PyData.canLayAll0 ds = true ∧ PyData.depthAll ds ≤ n
  | [], _ => ⟨by simp [PyData.canLayAll0], by simp [PyData.depthAll]⟩
  | d :: r, h => by
    have a := h d List.mem_cons_self
    have b := plAll (ds := r) fun x hx => h x (List.mem_cons_of_mem _ hx)
    refine ⟨?_, ?_⟩
    · simp only [PyData.canLayAll0, a.c, b.1, Bool.and_self]
    · have a2 := a.dp
      simp only [PyData.depthAll]
      omega
theorem plList {n : Nat} {ds : List PyData} (h : ∀ d ∈ ds, PlD n d) : PlD (n + 1) (.list ds) := by
  have q := plAll h
  exact ⟨by simp only [PyData.canLay0]; exact q.1, by simp only [PyData.depth]; omega⟩
theorem plTup {n : Nat} {ds : List PyData} (h : ∀ d ∈ ds, PlD n d) : PlD (n + 1) (.tuple ds) := by
  have q := plAll h
  exact ⟨by simp only [PyData.canLay0]; exact q.1, by simp only [PyData.depth]; omega⟩
theorem PlD.ok {n : Nat} {d : PyData} (h : PlD n d) (hn : n ≤ 64) : SeqAt.shaped d = true := by
  unfold SeqAt.shaped
  rw [h.c, decide_eq_true (Nat.le_trans h.dp hn)]; rfl
theorem PlD.eq {n : Nat} {d : PyData} (h : PlD n d) : PyData.eqv d d = true := SeqAt.eqv_refl d h.c
theorem dpAllMap {α : Type} {K : PySem.W.Frag} {H : Hp} {f : α → V} {g : α → PyData} (h : ∀ x, Dp K H (f x) (g x)) : ∀ xs : List α, DpAll K H (xs.map f) (xs.map g)
  | [] => .nil
  | x :: r => .cons (h x) (dpAllMap h r)
theorem dpInts {K : PySem.W.Frag} {H : Hp} {a : Addr} {ns : List Int} (h : SqL K H a (ns.map V.int)) : Dp K H (.ref a) (.list (ns.map PyData.int)) := .lst h (dpAllMap (fun x => .int x) ns)
theorem plInts (ns : List Int) : PlD 1 (.list (ns.map PyData.int)) := plList fun d hd => by
  obtain ⟨x, _, rfl⟩ := List.mem_map.mp hd
  exact plInt x
theorem plMem1 {n : Nat} {a : PyData} (h : PlD n a) : ∀ d ∈ [a], PlD n d := fun d hd => by
  rw [List.mem_singleton.mp hd]; exact h
theorem plCons {n : Nat} {a : PyData} {r : List PyData} (h : PlD n a) (h2 : ∀ d ∈ r, PlD n d) : ∀ d ∈ a :: r, PlD n d := fun d hd => by
  rcases List.mem_cons.mp hd with e | e
  · rw [e]; exact h
  · exact h2 d e
theorem plNil {n : Nat} : ∀ d ∈ ([] : List PyData), PlD n d := fun d hd => by cases hd
/-- two lists of ints in a list -/
theorem dpTwo {K : PySem.W.Frag} {H : Hp} {l a b : Addr} {xs ys : List Int} (h : SqL K H l [.ref a, .ref b]) (ha : SqL K H a (xs.map V.int)) (hb : SqL K H b (ys.map V.int)) :
    Dp K H (.ref l) (.list [.list (xs.map PyData.int), .list (ys.map PyData.int)]) := .lst h (.cons (dpInts ha) (.cons (dpInts hb) .nil))
theorem plTwo (xs ys : List Int) : PlD 2 (.list [.list (xs.map PyData.int), .list (ys.map PyData.int)]) := plList (plCons (plInts xs) (plCons (plInts ys) plNil))
/-- != of two such -/
theorem neTwo {K : PySem.W.Frag} {H : Hp} {l l' a b a' b' : Addr} {xs ys : List Int} {Q : VK} (h : SqL K H l [.ref a, .ref b]) (ha : SqL K H a (xs.map V.int)) (hb : SqL K H b (ys.map V.int))
    (h' : SqL K H l' [.ref a', .ref b']) (ha' : SqL K H a' (xs.map V.int)) (hb' : SqL K H b' (ys.map V.int)) (k : Q (.bl false) H) : rNeDI K (.ref l) (.ref l') H Q := by
  unfold rNeDI
  exact ⟨_, _, dpTwo h ha hb, dpTwo h' ha' hb', (plTwo xs ys).ok (by decide), (plTwo xs ys).ok (by decide), by rw [(plTwo xs ys).eq]; exact k⟩
theorem eqTwo {K : PySem.W.Frag} {H : Hp} {l l' a b a' b' : Addr} {xs ys : List Int} {Q : VK} (h : SqL K H l [.ref a, .ref b]) (ha : SqL K H a (xs.map V.int)) (hb : SqL K H b (ys.map V.int))
    (h' : SqL K H l' [.ref a', .ref b']) (ha' : SqL K H a' (xs.map V.int)) (hb' : SqL K H b' (ys.map V.int)) (k : Q (.bl true) H) : rEqDI K (.ref l) (.ref l') H Q := by
  unfold rEqDI
  exact ⟨_, _, dpTwo h ha hb, dpTwo h' ha' hb', (plTwo xs ys).ok (by decide), (plTwo xs ys).ok (by decide), by rw [(plTwo xs ys).eq]; exact k⟩
end Pw
namespace Pw
section
variable {K : PySem.W.Frag} {H : Hp} {x y : V} {d : PyData} {n : Nat} {Q : VK}
theorem eqSame (h : Dp K H x d) (h' : Dp K H y d) (pl : PlD n d) (k : Q (.bl true) H) (hn : n ≤ 64 := by decide) : rEqDI K x y H Q := by
  unfold rEqDI
  exact ⟨_, _, h, h', pl.ok hn, pl.ok hn, by rw [pl.eq]; exact k⟩
theorem neSame (h : Dp K H x d) (h' : Dp K H y d) (pl : PlD n d) (k : Q (.bl false) H) (hn : n ≤ 64 := by decide) : rNeDI K x y H Q := by
  unfold rNeDI
  exact ⟨_, _, h, h', pl.ok hn, pl.ok hn, by rw [pl.eq]; exact k⟩
theorem dpBools {a : Addr} (bs : List Bool) (h : SqL K H a (bs.map V.bl)) : Dp K H (.ref a) (.list (bs.map PyData.bool)) := .lst h (dpAllMap (fun x => .bl x) bs)
theorem plBools (bs : List Bool) : PlD 1 (.list (bs.map PyData.bool)) := plList fun d hd => by
  obtain ⟨x, _, rfl⟩ := List.mem_map.mp hd
  exact plBool x
theorem dpPair {p : Addr} {u v : V} {du dv : PyData} (h : H p = some (.tup [u, v])) (hu : Dp K H u du) (hv : Dp K H v dv) : Dp K H (.ref p) (.tuple [du, dv]) := .tup (SqT.of h) (.cons hu (.cons hv .nil))
theorem plPair {du dv : PyData} (hu : PlD n du) (hv : PlD n dv) : PlD (n + 1) (.tuple [du, dv]) := plTup (plCons hu (plCons hv plNil))
theorem dpNil {p : Addr} (h : SqL K H p []) : Dp K H (.ref p) (.list []) := .lst h .nil
theorem plNilL : PlD 1 (.list []) := plList plNil
end
theorem WallAt.lstUpd {K : PySem.W.Frag} {H : Hp} {s : WS} {a : Addr} {xs ys : List V} (h : WallAt K H s) (ha : H a = some (.lst xs)) (n1 : a ≠ s.l1) (n2 : a ≠ s.l2) (n3 : a ≠ s.l3) : WallAt K (upd H a (.lst ys)) s :=
  ⟨by rw [upd_ne (ne_of h.ob ha (by intro q; cases q))]; exact h.ob, by rw [upd_ne (Ne.symm n1)]; exact h.bx, by rw [upd_ne (Ne.symm n2)]; exact h.is,
   let ⟨ts, h1, h2, h3⟩ := h.ps; ⟨ts, by rw [upd_ne (Ne.symm n3)]; exact h1, h2, fun j t q => by rw [upd_ne (ne_of (h3 j t q) ha (by intro q; cases q))]; exact h3 j t q⟩, h.n12, h.n13, h.n23, h.len, h.l8, h.pl, h.nb⟩
end Pw
namespace Pw
/-! ### lists of pairs of ints -/
def pairAt (H : Hp) (v : V) : Int × Int := match v with
  | .ref t => (match H t with
    | some (.tup [.int i, .int j]) => (i, j)
    | _ => (0, 0))
  | _ => (0, 0)
theorem pairAt_of {H : Hp} {t : Addr} {i j : Int} (h : H t = some (.tup [.int i, .int j])) : pairAt H (.ref t) = (i, j) := by
  unfold pairAt
  simp only [h]
def IsPair (H : Hp) (y : V) : Prop := ∃ (t : Addr) (i j : Int), y = V.ref t ∧ H t = some (.tup [.int i, .int j])
theorem IsPair.at_ {H : Hp} {y : V} (h : IsPair H y) : ∃ t, y = V.ref t ∧ H t = some (.tup [.int (pairAt H y).1, .int (pairAt H y).2]) := by
  obtain ⟨t, i, j, rfl, e⟩ := h
  exact ⟨t, rfl, by rw [pairAt_of e]; exact e⟩
theorem IsPair.keep {H H' : Hp} {y : V} (h : IsPair H y) (s : ∀ t i j, H t = some (.tup [.int i, .int j]) → H' t = some (.tup [.int i, .int j])) : IsPair H' y ∧ pairAt H' y = pairAt H y := by
  obtain ⟨t, i, j, rfl, e⟩ := h
  exact ⟨⟨t, i, j, rfl, s _ _ _ e⟩, by rw [pairAt_of e, pairAt_of (s _ _ _ e)]⟩
/-- a list of pairs stands at p -/
structure PairL (H : Hp) (p : Addr) (ps : List (Int × Int)) : Prop where
  ex : ∃ ys : List V, H p = some (.lst ys) ∧ (∀ y ∈ ys, IsPair H y) ∧ ys.map (pairAt H) = ps
theorem mapKeep {H H' : Hp} {ys : List V} (h : ∀ y ∈ ys, IsPair H y) (s : ∀ t i j, H t = some (.tup [.int i, .int j]) → H' t = some (.tup [.int i, .int j])) : (∀ y ∈ ys, IsPair H' y) ∧ ys.map (pairAt H') = ys.map (pairAt H) :=
  ⟨fun y hy => ((h y hy).keep s).1, List.map_congr_left fun y hy => ((h y hy).keep s).2⟩
theorem PairL.mono {H H' : Hp} {p : Addr} {ps : List (Int × Int)} (h : PairL H p ps) (s : Same H H') : PairL H' p ps := by
  obtain ⟨ys, h1, h2, h3⟩ := h.ex
  have q := mapKeep (H' := H') h2 fun t i j e => s _ _ e
  exact ⟨ys, s _ _ h1, q.1, by rw [q.2, h3]⟩
theorem PairL.at_ {H : Hp} {p : Addr} {ps : List (Int × Int)} (h : PairL H p ps) {z : Int} (h0 : 0 ≤ z) (h1 : z < ps.length) :
    ∃ ys t, H p = some (.lst ys) ∧ atI ys z = some (V.ref t) ∧ H t = some (.tup [.int (ps.getD z.toNat (0, 0)).1, .int (ps.getD z.toNat (0, 0)).2]) := by
  obtain ⟨ys, e1, e2, e3⟩ := h.ex
  have hl : ys.length = ps.length := by rw [← e3, List.length_map]
  have hz : z.toNat < ys.length := by omega
  obtain ⟨t, ht, hh⟩ := (e2 ys[z.toNat] (List.getElem_mem hz)).at_
  refine ⟨ys, t, e1, at_of (j := z.toNat) (by omega) (by rw [List.getElem?_eq_getElem hz, ht]), ?_⟩
  have e : ps.getD z.toNat (0, 0) = pairAt H ys[z.toNat] := by
    rw [← e3, List.getD_eq_getElem?_getD, List.getElem?_map, List.getElem?_eq_getElem hz]; rfl
  rw [e]; exact hh
theorem PairL.len {H : Hp} {p : Addr} {ps : List (Int × Int)} (h : PairL H p ps) : ∃ ys, H p = some (.lst ys) ∧ ys.length = ps.length := by
  obtain ⟨ys, e1, _, e3⟩ := h.ex
  exact ⟨ys, e1, by rw [← e3, List.length_map]⟩
theorem PairL.nil {H : Hp} {p : Addr} (h : H p = some (.lst [])) : PairL H p [] := ⟨[], h, fun y hy => (by cases hy), rfl⟩
theorem PairL.snoc {H : Hp} {D t : Addr} {ps : List (Int × Int)} {i j : Int} (h : PairL H D ps) (ht : H t = some (.tup [.int i, .int j])) :
    ∃ ys, H D = some (.lst ys) ∧ ys.length = ps.length ∧ PairL (upd H D (.lst (ys ++ [V.ref t]))) D (ps ++ [(i, j)]) := by
  obtain ⟨ys, e1, e2, e3⟩ := h.ex
  refine ⟨ys, e1, by rw [← e3, List.length_map], ?_⟩
  have s : ∀ (t' : Addr) (i j : Int), H t' = some (.tup [.int i, .int j]) → upd H D (.lst (ys ++ [V.ref t])) t' = some (.tup [.int i, .int j]) := fun t' i j e => by
    rw [upd_ne (ne_of e e1 (by intro q; cases q))]; exact e
  have q := mapKeep (H' := upd H D (.lst (ys ++ [V.ref t]))) e2 s
  refine ⟨ys ++ [V.ref t], upd_same, fun y hy => ?_, ?_⟩
  · rcases List.mem_append.mp hy with z | z
    · exact q.1 y z
    · rw [List.mem_singleton.mp z]; exact ⟨t, i, j, rfl, s _ _ _ ht⟩
  · rw [List.map_append, q.2, e3]
    show ps ++ [pairAt _ (V.ref t)] = _
    rw [pairAt_of (s _ _ _ ht)]
def LexLe (p q : Int × Int) : Prop := p.1 < q.1 ∨ (p.1 = q.1 ∧ p.2 ≤ q.2)
/-- sorted(ps) -/
theorem sortedPairs {K : PySem.W.Frag} {H : Hp} {Q : VK} {a : Addr} {ps : List (Int × Int)} (h : PairL H a ps)
    (k : ∀ (ps' : List (Int × Int)) (p : Addr) (H' : Hp), ps'.Perm ps → ps'.Pairwise LexLe → Same H H' → H p = none → PairL H' p ps' → Q (.ref p) H') : rSortPO K [.ref a] H Q := by
  unfold rSortPO
  obtain ⟨ys, e1, e2, e3⟩ := h.ex
  refine ⟨a, ys, pairAt H, rfl, SqL.of e1, fun x hx => (e2 x hx).at_, fun zs p hs hst hp => ?_⟩
  have hperm : zs.Perm ys := hst.perm
  have s : Same H (upd H p (.lst zs)) := sameNew (Same.refl _) hp
  have hz : ∀ y ∈ zs, IsPair H y := fun y hy => e2 y (hperm.mem_iff.mp hy)
  have q := mapKeep (H' := upd H p (.lst zs)) hz fun t i j e => s _ _ e
  refine k (zs.map (pairAt H)) p _ (by rw [← e3]; exact hperm.map _) ?_ s hp ⟨zs, upd_same, q.1, q.2⟩
  rw [List.pairwise_map]
  refine List.Pairwise.imp (fun {x y} hxy => ?_) hs
  have := SrtO.lexB_no.mp hxy
  unfold LexLe
  omega
section
variable {K : PySem.W.Frag} {tt : TT} {te : TE} {vs : List Nat} {j : Nat} {σ : L2.St} {H1 : Hp} {D : Addr} {Qd : Hp → Prop}
/-- [(f(i), g(i)) for i in range(n) if p(i)] -/
theorem lcPairs {lo : Int} {n : Nat} (p : Nat → Bool) (f g : Nat → Int) (hD : H1 D = none) (hlen : n ≤ 50000) (hw : ∀ x, wipe ((wipe σ vs).set j (some x)) vs = wipe σ vs)
    (ht : ∀ (i : Nat) H', i < n → Same H1 H' → ∀ T : Bool → Hp → Prop, (∀ H'', Same H' H'' → T (p i) H'') → tt ((wipe σ vs).set j (some (.int (lo + i)))) H' T)
    (he : ∀ (i : Nat) H', i < n → p i = true → Same H1 H' → ∀ Qv : VK, (∀ t H'', Same H' H'' → H'' t = some (.tup [.int (f i), .int (g i)]) → Qv (.ref t) H'') → te ((wipe σ vs).set j (some (.int (lo + i)))) H' Qv)
    (hd : ∀ H', Same H1 H' → PairL H' D (((List.range n).filter p).map fun i => (f i, g i)) → Qd H') :
    ∃ W : Nat → Nat → Hp → Prop, (∃ m, W 0 m (upd H1 D (.lst []))) ∧ ∀ i m H, W i m H →
      ((Itr lo n).stop i H ∧ Qd H) ∨ ((Itr lo n).go i H ∧ ∃ Nx : Hp → Prop, (∀ H', Nx H' → ∃ m', m' < m ∧ W (i + 1) m' H') ∧ ∀ x H', (Itr lo n).yld i H x H' → gName j x (wipe σ vs) H' fun σ2 H2 => wipe σ2 vs = wipe σ vs ∧ tt σ2 H2 fun b H3 =>
        if b = true then te σ2 H3 fun y H4 => ∃ acc, H4 D = some (.lst acc) ∧ acc.length < sizeLine ∧ Nx (upd H4 D (.lst (acc ++ [y]))) else Nx H3) := by
  refine lc_range (lo := lo) (n := n) (fun i H' => Same H1 H' ∧ PairL H' D (((List.range i).filter p).map fun i => (f i, g i))) ⟨sameNew (Same.refl _) hD, PairL.nil upd_same⟩ ?_ ?_
  · rintro i H' hi ⟨s, hL⟩
    refine ⟨hw _, ?_⟩
    refine ht i H' hi s _ fun H3 s3 => ?_
    have e : ((List.range (i + 1)).filter p).map (fun i => (f i, g i)) = ((List.range i).filter p).map (fun i => (f i, g i)) ++ (if p i = true then [(f i, g i)] else []) := by
      rw [List.range_succ, List.filter_append, List.map_append]
      congr 1
      by_cases c : p i = true
      · rw [if_pos c]; simp [c]
      · rw [if_neg c]; simp [c]
    refine ifB (fun c => ?_) (fun c => ?_)
    · refine he i H3 hi c (s.trans s3) _ fun t H4 s4 ht4 => ?_
      rw [if_pos c] at e
      obtain ⟨ys, y1, y2, y3⟩ := (hL.mono (s3.trans s4)).snoc ht4
      refine ⟨ys, y1, ?_, sameMut (s.trans (s3.trans s4)) hD, by rw [e]; exact y3⟩
      have q1 : (((List.range i).filter p).map fun i => (f i, g i)).length ≤ i := by
        rw [List.length_map]
        exact Nat.le_trans (List.length_filter_le _ _) (by rw [List.length_range]; omega)
      exact szLt (by omega)
    · rw [if_neg (by rw [c]; exact Bool.false_ne_true), List.append_nil] at e
      exact ⟨s.trans s3, by rw [e]; exact hL.mono s3⟩
  · rintro H' ⟨s, hL⟩
    exact hd H' s hL
end
/-! ### how many are as great -/
def cntGe (xs : List Int) (s : Int) : Nat := (xs.filter fun x => decide (s ≤ x)).length
theorem cntGe_cons (x : Int) (xs : List Int) (s : Int) : cntGe (x :: xs) s = (if s ≤ x then 1 else 0) + cntGe xs s := by
  unfold cntGe
  by_cases h : s ≤ x
  · simp [h]; omega
  · simp [h]
theorem cntGe_perm {xs ys : List Int} (h : xs.Perm ys) (s : Int) : cntGe xs s = cntGe ys s := (h.filter _).length_eq
theorem cntGe_zero {xs : List Int} {s : Int} (h : ∀ y ∈ xs, y < s) : cntGe xs s = 0 := by
  induction xs with
  | nil => rfl
  | cons x r ih =>
    rw [cntGe_cons, if_neg (by have := h x List.mem_cons_self; omega), ih fun y hy => h y (List.mem_cons_of_mem _ hy)]
theorem cntGe_le (xs : List Int) (s : Int) : cntGe xs s ≤ xs.length := List.length_filter_le _ _
theorem cntGe_all {xs : List Int} {s : Int} (h : ∀ y ∈ xs, s ≤ y) : cntGe xs s = xs.length := by
  induction xs with
  | nil => rfl
  | cons x r ih =>
    rw [cntGe_cons, if_pos (h x List.mem_cons_self), ih fun y hy => h y (List.mem_cons_of_mem _ hy), List.length_cons]; omega
/-- in a falling list the first of those as great as s -/
theorem desc_cnt : ∀ {A : List Int} {s : Int}, A.Pairwise (fun x y => y ≤ x) → ∀ (k : Nat) (hk : k < A.length), s ≤ A[k] ↔ k < cntGe A s
  | [], _, _, k, hk => absurd hk (Nat.not_lt_zero _)
  | x :: r, s, h, k, hk => by
    obtain ⟨h1, h2⟩ := List.pairwise_cons.mp h
    rw [cntGe_cons]
    by_cases c : s ≤ x
    · rw [if_pos c]
      cases k with
      | zero => show s ≤ x ↔ _; exact ⟨fun _ => by omega, fun _ => c⟩
      | succ k =>
        have hk' : k < r.length := Nat.lt_of_succ_lt_succ hk
        have ih := desc_cnt (s := s) h2 k hk'
        show s ≤ r[k] ↔ _
        rw [ih]; omega
    · rw [if_neg c, cntGe_zero (fun y hy => by have := h1 y hy; omega)]
      constructor
      · intro q
        cases k with
        | zero => exact absurd q c
        | succ k =>
          have := h1 _ (List.getElem_mem (Nat.lt_of_succ_lt_succ hk))
          have q : s ≤ r[k]'(Nat.lt_of_succ_lt_succ hk) := q
          omega
      · intro q; omega
theorem fallen_le {A B : List Int} (hA : A.Pairwise fun x y => y ≤ x) (hB : B.Pairwise fun x y => y ≤ x) (h : ∀ s, 1 ≤ s → s ≤ 9 → cntGe A s ≤ cntGe B s) (hr : ∀ x ∈ A, 1 ≤ x ∧ x ≤ 9) (k : Nat) (hk : k < A.length) :
    ∃ hk' : k < B.length, A[k] ≤ B[k] := by
  have hs := hr _ (List.getElem_mem hk)
  have c1 := (desc_cnt (s := A[k]) hA k hk).mp (Int.le_refl _)
  have c2 := h A[k] hs.1 hs.2
  have c3 := cntGe_le B A[k]
  have hk' : k < B.length := by omega
  exact ⟨hk', (desc_cnt hB k hk').mpr (by omega)⟩
/-! ### a fitting -/
def Boxes (sizes parcels fs : List Int) : Prop := fs.length = parcels.length ∧ (∀ k < parcels.length, 0 ≤ fs.getD k 0 ∧ fs.getD k 0 < sizes.length ∧ parcels.getD k 0 ≤ sizes.getD (fs.getD k 0).toNat 0) ∧ fs.Nodup
def Many (sizes parcels : List Int) (s : Int) : Prop := 1 ≤ s ∧ s ≤ 9 ∧ cntGe sizes s < cntGe parcels s
/-- the falling order of xs, with the places -/
structure Fall (xs : List Int) (ps : List (Int × Int)) : Prop where
  perm : ps.Perm ((List.range xs.length).map fun i => (0 - xs.getD i 0, (i : Int)))
  srt : ps.Pairwise LexLe
namespace Fall
variable {xs : List Int} {ps : List (Int × Int)} (F : Fall xs ps)
include F
theorem len : ps.length = xs.length := by rw [F.perm.length_eq]; simp
theorem item {j : Nat} (hj : j < ps.length) : ∃ i : Nat, i < xs.length ∧ (ps.getD j (0, 0)).2 = (i : Int) ∧ (ps.getD j (0, 0)).1 = 0 - xs.getD i 0 := by
  have e : ps.getD j (0, 0) = ps[j] := by rw [List.getD_eq_getElem?_getD, List.getElem?_eq_getElem hj]; rfl
  have m := F.perm.mem_iff.mp (List.getElem_mem hj)
  obtain ⟨i, hi, q⟩ := List.mem_map.mp m
  exact ⟨i, List.mem_range.mp hi, by rw [e, ← q], by rw [e, ← q]⟩
theorem places : (ps.map (·.2)).Perm ((List.range xs.length).map fun i : Nat => (i : Int)) := by
  have q := F.perm.map (·.2)
  rw [List.map_map] at q
  exact q
theorem nodup : (ps.map (·.2)).Nodup := by
  refine F.places.nodup_iff.mpr ?_
  refine List.Pairwise.map _ (R := (· ≠ ·)) (fun a b h e => h (by omega)) List.nodup_range
theorem vals : (ps.map fun p => 0 - p.1).Perm xs := by
  have q := F.perm.map (fun p => 0 - p.1)
  rw [List.map_map] at q
  have e : (List.range xs.length).map ((fun p : Int × Int => 0 - p.1) ∘ fun i => (0 - xs.getD i 0, (i : Int))) = xs := by
    refine List.ext_getElem (by simp) fun i h1 h2 => ?_
    rw [List.getElem_map, List.getElem_range]
    show 0 - (0 - xs.getD i 0) = _
    rw [getDlt h2]; omega
  rw [e] at q
  exact q
theorem falls : (ps.map fun p => 0 - p.1).Pairwise fun x y => y ≤ x := by
  rw [List.pairwise_map]
  exact F.srt.imp fun {x y} h => by unfold LexLe at h; omega
end Fall
/-- what the two orders tell: the k-th greatest parcel goes into the k-th greatest box -/
theorem fall_fits {sizes parcels : List Int} {po pf : List (Int × Int)} (O : Fall parcels po) (F : Fall sizes pf) (okp : OkP parcels) (h : ∀ s, 1 ≤ s → s ≤ 9 → cntGe parcels s ≤ cntGe sizes s) {j : Nat} (hj : j < po.length) :
    ∃ (i b : Nat), i < parcels.length ∧ b < sizes.length ∧ j < pf.length ∧ (po.getD j (0, 0)).2 = (i : Int) ∧ (pf.getD j (0, 0)).2 = (b : Int) ∧ parcels.getD i 0 ≤ sizes.getD b 0 := by
  obtain ⟨i, hi, e1, e2⟩ := O.item hj
  obtain ⟨hk, hle⟩ := fallen_le O.falls F.falls (fun s h1 h2 => by rw [cntGe_perm O.vals, cntGe_perm F.vals]; exact h s h1 h2) (fun x hx => okp x (O.vals.mem_iff.mp hx)) j (by rw [List.length_map]; exact hj)
  have hj2 : j < pf.length := by rw [List.length_map] at hk; exact hk
  obtain ⟨b, hb, f1, f2⟩ := F.item hj2
  refine ⟨i, b, hi, hb, hj2, e1, f1, ?_⟩
  rw [List.getElem_map, List.getElem_map] at hle
  have e : po.getD j (0, 0) = po[j] := by rw [List.getD_eq_getElem?_getD, List.getElem?_eq_getElem hj]; rfl
  have f : pf.getD j (0, 0) = pf[j] := by rw [List.getD_eq_getElem?_getD, List.getElem?_eq_getElem hj2]; rfl
  rw [e] at e2
  rw [f] at f2
  omega
/-- the boxes found so far -/
def Found (po pf : List (Int × Int)) (n i : Nat) (fs : List Int) : Prop := fs.length = n ∧ ∀ j < i, fs.getD (po.getD j (0, 0)).2.toNat 0 = (pf.getD j (0, 0)).2
theorem found_set {xs : List Int} {po pf : List (Int × Int)} (O : Fall xs po) {i : Nat} {fs : List Int} (hi : i < po.length) (h : Found po pf xs.length i fs) : Found po pf xs.length (i + 1) (fs.set (po.getD i (0, 0)).2.toNat (pf.getD i (0, 0)).2) := by
  obtain ⟨hl, ha⟩ := h
  obtain ⟨a, ha1, ha2, _⟩ := O.item hi
  refine ⟨by rw [List.length_set]; exact hl, fun j hj => ?_⟩
  obtain ⟨b, hb1, hb2, _⟩ := O.item (j := j) (by omega)
  by_cases c : j = i
  · subst c
    rw [List.getD_eq_getElem?_getD, List.getElem?_set_self (by rw [ha2]; omega)]; rfl
  · have ne : (po.getD i (0, 0)).2.toNat ≠ (po.getD j (0, 0)).2.toNat := fun e => by
      have nd := O.nodup
      have hj' : j < (po.map (·.2)).length := by rw [List.length_map]; omega
      have hi' : i < (po.map (·.2)).length := by rw [List.length_map]; omega
      have q : (po.map (·.2))[i] = (po.map (·.2))[j] := by
        rw [List.getElem_map, List.getElem_map]
        have e1 : po.getD i (0, 0) = po[i] := by rw [List.getD_eq_getElem?_getD, List.getElem?_eq_getElem hi]; rfl
        have e2 : po.getD j (0, 0) = po[j]'(by omega) := by rw [List.getD_eq_getElem?_getD, List.getElem?_eq_getElem (by omega)]; rfl
        rw [← e1, ← e2]; omega
      exact c ((List.getElem_inj nd).mp q).symm
    rw [List.getD_eq_getElem?_getD, List.getElem?_set_ne ne, ← List.getD_eq_getElem?_getD]
    exact ha j (by omega)
theorem found_boxes {sizes parcels : List Int} {po pf : List (Int × Int)} (O : Fall parcels po) (F : Fall sizes pf) (okp : OkP parcels) (h : ∀ s, 1 ≤ s → s ≤ 9 → cntGe parcels s ≤ cntGe sizes s) {fs : List Int} (hf : Found po pf parcels.length po.length fs) : Boxes sizes parcels fs := by
  obtain ⟨hl, ha⟩ := hf
  have key : ∀ k < parcels.length, ∃ j, j < po.length ∧ (po.getD j (0, 0)).2 = (k : Int) := fun k hk => by
    have m : ((k : Nat) : Int) ∈ po.map (·.2) := O.places.mem_iff.mpr (List.mem_map.mpr ⟨k, List.mem_range.mpr hk, rfl⟩)
    obtain ⟨j, hj, e⟩ := List.mem_iff_getElem.mp m
    rw [List.length_map] at hj
    rw [List.getElem_map] at e
    exact ⟨j, hj, by rw [List.getD_eq_getElem?_getD, List.getElem?_eq_getElem hj]; exact e⟩
  refine ⟨hl, fun k hk => ?_, ?_⟩
  · obtain ⟨j, hj, e⟩ := key k hk
    obtain ⟨i, b, hi, hb, hj2, e1, e2, e3⟩ := fall_fits O F okp h hj
    have q := ha j hj
    have : i = k := by omega
    subst this
    rw [e1] at q
    rw [show ((i : Nat) : Int).toNat = i from rfl] at q
    rw [q, e2]
    refine ⟨by omega, by omega, ?_⟩
    rw [show ((b : Nat) : Int).toNat = b from rfl]; exact e3
  · refine List.pairwise_iff_getElem.mpr fun k k' hk hk' hlt e => ?_
    obtain ⟨j, hj, e1⟩ := key k (by omega)
    obtain ⟨j', hj', e1'⟩ := key k' (by omega)
    obtain ⟨i, b, hi, hb, hj2, f1, f2, f3⟩ := fall_fits O F okp h hj
    obtain ⟨i', b', hi', hb', hj2', f1', f2', f3'⟩ := fall_fits O F okp h hj'
    have q := ha j hj
    have q' := ha j' hj'
    rw [e1, show ((k : Nat) : Int).toNat = k from rfl, getDlt hk] at q
    rw [e1', show ((k' : Nat) : Int).toNat = k' from rfl, getDlt hk'] at q'
    have eb : (pf.getD j (0, 0)).2 = (pf.getD j' (0, 0)).2 := by rw [← q, ← q', e]
    have nd := F.nodup
    have z : (pf.map (·.2))[j]'(by rw [List.length_map]; exact hj2) = (pf.map (·.2))[j']'(by rw [List.length_map]; exact hj2') := by
      rw [List.getElem_map, List.getElem_map]
      have x1 : pf.getD j (0, 0) = pf[j] := by rw [List.getD_eq_getElem?_getD, List.getElem?_eq_getElem hj2]; rfl
      have x2 : pf.getD j' (0, 0) = pf[j'] := by rw [List.getD_eq_getElem?_getD, List.getElem?_eq_getElem hj2']; rfl
      rw [← x1, ← x2]; exact eb
    have jj := (List.getElem_inj nd).mp z
    subst jj
    omega
end Pw
namespace Pw
/-- the box that a parcel of a size comes into: the least that holds it, the first of alike ones -/
def LB (sizes : List Int) (fs : List Nat) (size : Int) (b : Nat) : Prop := b ∈ fs ∧ size ≤ sizes.getD b 0 ∧ ∀ c ∈ fs, size ≤ sizes.getD c 0 → (sizes.getD b 0 < sizes.getD c 0 ∨ (sizes.getD b 0 = sizes.getD c 0 ∧ b ≤ c))
theorem LB.uniq {sizes : List Int} {fs : List Nat} {size : Int} {b c : Nat} (h : LB sizes fs size b) (h' : LB sizes fs size c) : b = c := by
  have h1 := h.2.2 c h'.1 h'.2.1
  have h2 := h'.2.2 b h.1 h.2.1
  omega
def freeL (inside : List (Option Nat)) : List Nat := (List.range inside.length).filter fun i => (inside.getD i none).isNone
theorem mem_free {l : List (Option Nat)} {b : Nat} : b ∈ freeL l ↔ b < l.length ∧ l.getD b none = none := by
  unfold freeL
  rw [List.mem_filter, List.mem_range, Option.isNone_iff_eq_none]
theorem free_lt (l : List (Option Nat)) : (freeL l).Pairwise (· < ·) := List.Pairwise.filter _ List.pairwise_lt_range
theorem free_len (l : List (Option Nat)) : (freeL l).length ≤ l.length := freeLen l
def WS.came (s : WS) (b : Nat) (size till : Int) : WS := { s with inside := s.inside.set b (some s.parcels.length), parcels := s.parcels ++ [(size, till)] }
theorem WallAt.came {K : PySem.W.Frag} {H : Hp} {s : WS} (A : WallAt K H s) {ts : List Addr} (h1 : H s.l3 = some (.lst (ts.map V.ref))) (h2 : ts.length = s.parcels.length)
    (h3 : ∀ (j : Nat) (t : Addr), ts[j]? = some t → H t = some (.tup [.int (s.parcels.getD j (0, 0)).1, .int (s.parcels.getD j (0, 0)).2])) {t : Addr} {size till : Int} (ht : H t = some (.tup [.int size, .int till])) {b : Nat} (hp : s.parcels.length < 1000) :
    WallAt K (upd (upd H s.l3 (.lst (ts.map V.ref ++ [V.ref t]))) s.l2 (.lst ((s.inside.set b (some s.parcels.length)).map optV))) (s.came b size till) := by
  have tne : ∀ {x : Addr} {u v : V}, H x = some (.tup [u, v]) → upd (upd H s.l3 (.lst (ts.map V.ref ++ [V.ref t]))) s.l2 (.lst ((s.inside.set b (some s.parcels.length)).map optV)) x = some (.tup [u, v]) := fun {x u v} e => by
    rw [upd_ne (ne_of e A.is (by intro q; cases q)), upd_ne (ne_of e h1 (by intro q; cases q))]; exact e
  refine ⟨?_, ?_, ?_, ⟨ts ++ [t], ?_, ?_, ?_⟩, A.n12, A.n13, A.n23, ?_, A.l8, ?_, ?_⟩
  · show upd _ s.l2 _ s.w = _
    rw [upd_ne (ne_of A.ob A.is (by intro q; cases q)), upd_ne (ne_of A.ob h1 (by intro q; cases q))]; exact A.ob
  · show upd _ s.l2 _ s.l1 = _
    rw [upd_ne A.n12, upd_ne A.n13]; exact A.bx
  · show upd _ s.l2 _ s.l2 = _
    exact upd_same
  · show upd _ s.l2 _ s.l3 = _
    rw [upd_ne (Ne.symm A.n23), upd_same, List.map_append]; rfl
  · show (ts ++ [t]).length = (s.parcels ++ [(size, till)]).length
    rw [List.length_append, List.length_append, h2]; rfl
  · intro j x hx
    show _ = some (HO.tup [.int ((s.parcels ++ [(size, till)]).getD j (0, 0)).1, .int ((s.parcels ++ [(size, till)]).getD j (0, 0)).2])
    rw [List.getD_eq_getElem?_getD]
    by_cases c : j < ts.length
    · rw [List.getElem?_append_left c] at hx
      rw [List.getElem?_append_left (by omega), ← List.getD_eq_getElem?_getD]
      exact tne (h3 j x hx)
    · have hj := getLt hx
      rw [List.length_append, List.length_singleton] at hj
      have e : j = ts.length := by omega
      subst e
      rw [List.getElem?_append_right (Nat.le_refl _), Nat.sub_self] at hx
      rw [List.getElem?_append_right (by omega), h2, Nat.sub_self]
      cases hx
      exact tne ht
  · show (s.inside.set b _).length = _
    rw [List.length_set]; exact A.len
  · show (s.parcels ++ [(size, till)]).length ≤ 1000
    rw [List.length_append, List.length_singleton]; omega
  · intro j n hn
    show n < (s.parcels ++ [(size, till)]).length
    have hn : (s.inside.set b (some s.parcels.length))[j]? = some (some n) := hn
    rw [List.length_append, List.length_singleton]
    rw [List.getElem?_set] at hn
    split at hn
    · split at hn
      · have : s.parcels.length = n := Option.some.inj (Option.some.inj hn)
        omega
      · cases hn
    · have := A.nb j n hn
      omega
theorem Frm.refl (s : WS) (H : Hp) : Frm s H H := fun _ _ e _ _ _ => e
theorem Frm.trans {s : WS} {H H1 H2 : Hp} (a : Frm s H H1) (b : Frm s H1 H2) : Frm s H H2 := fun x o e n1 n2 n3 => b x o (a x o e n1 n2 n3) n1 n2 n3
theorem Frm.same {s : WS} {H H1 : Hp} (a : Same H H1) : Frm s H H1 := fun x o e _ _ _ => a x o e
theorem setOpt {l : List (Option Nat)} {b n : Nat} : (l.map optV).set b (V.int (n : Int)) = (l.set b (some n)).map optV := by
  rw [List.map_set]; rfl
theorem setNon {l : List (Option Nat)} {b : Nat} : (l.map optV).set b V.non = (l.set b none).map optV := by
  rw [List.map_set]; rfl
end Pw
namespace Pw
theorem frmSame {s : WS} {H0 H1 H2 : Hp} (a : Same H0 H1) (f : Frm s H1 H2) (n1 : H0 s.w = none) (n2 : H0 s.l2 = none) (n3 : H0 s.l3 = none) : Same H0 H2 := fun x o e => f x o (a x o e) (ne_of_none e n1) (ne_of_none e n2) (ne_of_none e n3)
theorem lstNeW {K : PySem.W.Frag} {H : Hp} {s : WS} {a : Addr} {xs : List V} (A : WallAt K H s) (h : H a = some (.lst xs)) : a ≠ s.w := ne_of h A.ob (by intro q; cases q)
end Pw
namespace Pw
theorem WallAt.keep {K : PySem.W.Frag} {H H' : Hp} {s : WS} {as : List Addr} (A : WallAt K H s) (f : ∀ b o, H b = some o → b ∉ as → H' b = some o) (nw : s.w ∉ as) (n1 : s.l1 ∉ as) (n2 : s.l2 ∉ as) (n3 : s.l3 ∉ as)
    (nt : ∀ b u v, H b = some (.tup [u, v]) → b ∉ as) : WallAt K H' s :=
  ⟨f _ _ A.ob nw, f _ _ A.bx n1, f _ _ A.is n2, let ⟨ts, h1, h2, h3⟩ := A.ps; ⟨ts, f _ _ h1 n3, h2, fun j t q => f _ _ (h3 j t q) (nt _ _ _ (h3 j t q))⟩, A.n12, A.n13, A.n23, A.len, A.l8, A.pl, A.nb⟩
/-- the heap without some things -/
def hide (H : Hp) (as : List Addr) : Hp := fun x => if x ∈ as then none else H x
theorem hide_in {H : Hp} {as : List Addr} {x : Addr} (h : x ∈ as) : hide H as x = none := if_pos h
theorem hide_out {H : Hp} {as : List Addr} {x : Addr} (h : x ∉ as) : hide H as x = H x := if_neg h
theorem hide_same (H : Hp) (as : List Addr) : Same (hide H as) H := fun x o e => by
  unfold hide at e
  split at e
  · cases e
  · exact e
theorem sameHide {H0 H : Hp} {as : List Addr} (s : Same H0 H) (h : ∀ z ∈ as, H0 z = none) : Same H0 (hide H as) := fun x o e => by
  rw [hide_out (fun m => by rw [h x m] at e; cases e)]; exact s x o e
theorem notIn {H : Hp} {as : List Addr} {x : Addr} (h : ∀ z ∈ as, H z ≠ none) (hx : H x = none) : x ∉ as := fun m => h x m hx
theorem notIn2 {H : Hp} {as : List Addr} {x : Addr} {o : HO} (h : ∀ z ∈ as, H z = none) (hx : H x = some o) : x ∉ as := fun m => by rw [h x m] at hx; cases hx
theorem nilNot {x : Addr} : x ∉ ([] : List Addr) := by simp
theorem consNot {x a : Addr} {as : List Addr} (h : x ≠ a) (t : x ∉ as) : x ∉ a :: as := by simp [h, t]
theorem someNe {H : Hp} {x : Addr} {o : HO} (h : H x = some o) : H x ≠ none := by rw [h]; intro z; cases z
theorem PairL.upd_tup {H H' : Hp} {p : Addr} {ps : List (Int × Int)} {as : List Addr} (h : PairL H p ps) (f : ∀ b o, H b = some o → b ∉ as → H' b = some o) (hp : p ∉ as) (nt : ∀ b u v, H b = some (.tup [u, v]) → b ∉ as) : PairL H' p ps := by
  obtain ⟨ys, h1, h2, h3⟩ := h.ex
  have q := mapKeep (H' := H') h2 fun t i j e => f _ _ e (nt _ _ _ e)
  exact ⟨ys, f _ _ h1 hp, q.1, by rw [q.2, h3]⟩
end Pw
namespace Pw
theorem isNone_opt (x : Option Nat) : decide (optV x = V.non) = x.isNone := by
  cases x <;> simp [optV]
end Pw
namespace Pw
/-- all but some things stands as it was -/
def Kp (as : List Addr) (H H' : Hp) : Prop := ∀ b o, H b = some o → b ∉ as → H' b = some o
theorem Kp.ofSame {as : List Addr} {H H' : Hp} (s : Same H H') : Kp as H H' := fun b o e _ => s b o e
theorem Kp.ofFrm {s : WS} {H H' : Hp} (f : Frm s H H') : Kp [s.w, s.l2, s.l3] H H' := fun b o e n => f b o e (fun q => n (by simp [q])) (fun q => n (by simp [q])) (fun q => n (by simp [q]))
theorem Kp.trans {as : List Addr} {H H1 H2 : Hp} (f : Kp as H H1) (g : Kp as H1 H2) : Kp as H H2 := fun b o e n => g b o (f b o e n) n
theorem Kp.more {as bs : List Addr} {H H' : Hp} (f : Kp as H H') (h : ∀ z ∈ as, z ∈ bs) : Kp bs H H' := fun b o e n => f b o e fun m => n (h b m)
theorem Kp.toFrm {s : WS} {H H' : Hp} (f : Kp [s.w, s.l2, s.l3] H H') : Frm s H H' := fun b o e n1 n2 n3 => f b o e (by simp [n1, n2, n3])
theorem hideStep {H0 H1 H2 : Hp} {as bs : List Addr} (s : Same (hide H0 as) H1) (k : Kp bs H1 H2) (m : ∀ z ∈ bs, z ∈ as) : Same (hide H0 as) H2 := fun x o e =>
  k x o (s x o e) fun q => by rw [hide_in (m x q)] at e; cases e
theorem hideGet {H0 : Hp} {as : List Addr} {x : Addr} {o : HO} (h : H0 x = some o) (n : x ∉ as) : hide H0 as x = some o := by rw [hide_out n]; exact h
/-- which refusal is due of a parcel that comes -/
def Rf (sizes : List Int) (inside : List (Option Nat)) (size nights : Int) (u : Str) : Prop :=
  (u = ("NoSize" : Str) ∧ ¬ (1 ≤ size ∧ size ≤ 9)) ∨ (u = ("NoNights" : Str) ∧ (1 ≤ size ∧ size ≤ 9) ∧ ¬ (1 ≤ nights ∧ nights ≤ 9)) ∨
  (u = ("NoBox" : Str) ∧ (1 ≤ size ∧ size ≤ 9) ∧ (1 ≤ nights ∧ nights ≤ 9) ∧ ∀ b ∈ freeL inside, sizes.getD b 0 < size)
theorem Rf.uniq {sizes : List Int} {inside : List (Option Nat)} {size nights : Int} {u v : Str} (h : Rf sizes inside size nights u) (h' : Rf sizes inside size nights v) : u = v := by
  rcases h with ⟨rfl, a⟩ | ⟨rfl, a, b⟩ | ⟨rfl, a, b, c⟩ <;> rcases h' with ⟨rfl, a'⟩ | ⟨rfl, a', b'⟩ | ⟨rfl, a', b', c'⟩ <;> first | rfl | (exact absurd a a') | (exact absurd a' a) | (exact absurd b b') | (exact absurd b' b)
/-- let in: into the box b -/
def In (sizes : List Int) (inside : List (Option Nat)) (size nights : Int) (b : Nat) : Prop := (1 ≤ size ∧ size ≤ 9) ∧ (1 ≤ nights ∧ nights ≤ 9) ∧ LB sizes (freeL inside) size b
theorem In.not {sizes : List Int} {inside : List (Option Nat)} {size nights : Int} {b : Nat} {u : Str} (h : In sizes inside size nights b) (h' : Rf sizes inside size nights u) : False := by
  obtain ⟨a, c, d⟩ := h
  rcases h' with ⟨_, a'⟩ | ⟨_, a', b'⟩ | ⟨_, a', b', c'⟩
  · exact a' a
  · exact b' c
  · have := c' b d.1
    have := d.2.1
    omega
end Pw
namespace Pw
def sp_Wall_free (K : PySem.W.Frag) : Sp := fun vs H Q _ => ∃ (s : WS), WallAt K H s ∧ vs = [.ref s.w] ∧ RetNew H Q ((freeL s.inside).map fun i : Nat => V.int (i : Int))
theorem len_Wall_free {K : PySem.W.Frag} : ∀ vs H Q E, sp_Wall_free K vs H Q E → vs.length = 1 := by
  rintro vs H Q E ⟨_, _, rfl, _⟩
  rfl
def t_Wall_free (K : PySem.W.Frag) (E : XK) : TS :=
  tRet (tLc (iRng1 (tCons (tCB (rLenSeq K) (tCons (tFld K (tVar 0) "boxes") tNil)) tNil)) (gName 1) (tTest (tOp rIsNone (tOp (rIxL K) (tFld K (tVar 0) "inside") (tVar 1)) (tC .non))) (tVar 1) [1])
theorem pure_Wall_free {K : PySem.W.Frag} (T : TW K) (vs : List V) (H : Hp) (Q : VK) (E : XK) (h : sp_Wall_free K vs H Q E) : t_Wall_free K E { nx := fun _ H' => Q .non H', rt := Q } (start ["self", "box"] vs) H := by
  obtain ⟨s, A, rfl, k⟩ := h
  obtain ⟨tcl, tnb, tni, tnp, tnt⟩ := id T
  have hob := A.ob
  have his := A.is
  have hbx := A.bx
  have hl := A.len
  have h8 := A.l8
  unfold t_Wall_free
  walk_at "go"
  intro p hp
  refine lcRng (n := (((s.sizes.map V.int).length : Nat) : Int).toNat) (fun i => (s.inside.getD i none).isNone) (fun i : Nat => V.int (i : Int)) hp (by simp; omega) (fun _ => rfl) (fun i H' hi s' TT k' => ?_) (fun i H' hi _ s' Qv k' => ?_) (fun H' s' hD => ?_)
  · simp only [List.length_map] at hi
    walk_at "go"
    refine ⟨atMap none (by omega) (by omega), ?_⟩
    walk_at "go"
    rw [isNone_opt]
    have e : ((0 : Int) + (i : Int)).toNat = i := by omega
    rw [e]
    exact k' _ (Same.refl _)
  · walk_at "go"
    have e : (0 : Int) + (i : Int) = (i : Int) := by omega
    rw [e]
    exact k' _ (Same.refl _)
  · refine k _ p s' hp ?_
    have e : (((s.sizes.map V.int).length : Nat) : Int).toNat = s.inside.length := by simp; omega
    rw [e] at hD
    exact hD
end Pw
namespace Pw
def sp_law_stands (K : PySem.W.Frag) : Sp := fun vs H Q _ => ∃ (s : WS), WallAt K H s ∧ ∃ (b d : Addr), vs = [.ref s.w, .ref b, .ref d, .int s.today] ∧ SqL K H b (s.sizes.map V.int) ∧ SqL K H d (s.inside.map optV) ∧ ∀ H', Same H H' → Q (.bl true) H'
theorem len_law_stands {K : PySem.W.Frag} : ∀ vs H Q E, sp_law_stands K vs H Q E → vs.length = 4 := by
  rintro vs H Q E ⟨_, _, _, _, rfl, _⟩
  rfl
def t_law_stands (K : PySem.W.Frag) (E : XK) : TS :=
  tSeq (tAsg (tLc (iRng1 (tCons (tCB (rLenSeq K) (tCons (tVar 1) tNil)) tNil)) (gName 6) (tTest (tOp rIsNone (tOp (rIxL K) (tVar 2) (tVar 6)) (tC .non))) (tVar 6) [6]) (gName 4))
    (tSeq (tIfS (tOr (tNot (tB (tCall (sp_law_row K) [] E0 (tCons (tMeth (He.ga K "Wall") "sizes" (sp_Wall_sizes K) [] E0 (tVar 0) tNil) (tCons (tVar 1) tNil))))) (tOr (tNot (tB (tCall (sp_law_held K) [] E0 (tCons (tMeth (He.ga K "Wall") "held" (sp_Wall_held K) [] E0 (tVar 0) tNil) (tCons (tVar 2) tNil))))) (tNot (tB (tCall (sp_law_row K) [] E0 (tCons (tMeth (He.ga K "Wall") "free" (sp_Wall_free K) [] E0 (tVar 0) tNil) (tCons (tVar 4) tNil))))))) (tRet (tC (.bl false))) (tNext))
    (tSeq (tAsg (tMeth (He.ga K "Wall") "day" (sp_Wall_day K) [] E0 (tVar 0) tNil) (gName 5))
    (tRet (tAndV (tCall (sp_law_whole K) [] E0 (tCons (tVar 5) tNil)) (tOp rEq (tVar 5) (tVar 3))))))
theorem pure_law_stands {K : PySem.W.Frag} (vs : List V) (H : Hp) (Q : VK) (E : XK) (h : sp_law_stands K vs H Q E) : t_law_stands K E { nx := fun _ H' => Q .non H', rt := Q } (start ["side", "sizes", "held", "day", "free", "told", "box"] vs) H := by
  obtain ⟨s, A, b, d, rfl, hB, hD, k⟩ := h
  have hl := A.len
  have h8 := A.l8
  unfold t_law_stands
  walk_at "go"
  intro p hp
  refine lcRng (n := (((s.sizes.map V.int).length : Nat) : Int).toNat) (fun i => (s.inside.getD i none).isNone) (fun i : Nat => V.int (i : Int)) hp (by simp; omega) (fun _ => rfl) (fun i H' hi s' TT k' => ?_) (fun i H' hi _ s' Qv k' => ?_) (fun H1 s1 hF => ?_)
  · simp only [List.length_map] at hi
    have e : ((0 : Int) + (i : Int)).toNat = i := by omega
    have sq := s'.seq hD
    walk_at "go"
    refine ⟨atMap none (by omega) (by omega), ?_⟩
    walk_at "go"
    rw [isNone_opt, e]
    exact k' _ (Same.refl _)
  · walk_at "go"
    rw [show (0 : Int) + (i : Int) = (i : Int) by omega]
    exact k' _ (Same.refl _)
  have e : (((s.sizes.map V.int).length : Nat) : Int).toNat = s.inside.length := by simp; omega
  rw [e] at hF
  have hF : H1 p = some (.lst (((freeL s.inside).map fun i : Nat => (i : Int)).map V.int)) := by rw [hF, List.map_map]; rfl
  have A1 := A.mono s1
  have hob := A1.ob
  have B1 := s1.seq hB
  have D1 := s1.seq hD
  walk_at "go"
  intro H2 q s2 hq hq2
  have hob := s2 _ _ hob
  have A2 := A1.mono s2
  walk_at "go"
  intro H3 q3 s3 hq3 hq4
  have hob := s3 _ _ hob
  have A3 := A2.mono s3
  have D3 := s3.seq (s2.seq D1)
  walk_at "go"
  intro H4 q5 s4 hq5 hq6
  have hob := s4 _ _ hob
  have A4 := A3.mono s4
  have fl : (freeL s.inside).length ≤ 8 := by
    have : (freeL s.inside).length ≤ (List.range s.inside.length).length := List.length_filter_le _ _
    rw [List.length_range] at this; omega
  have hF4 := s4 _ _ (s3 _ _ (s2 _ _ hF))
  have hq6 : H4 q5 = some (.lst (((freeL s.inside).map fun i : Nat => (i : Int)).map V.int)) := by rw [hq6, List.map_map]; rfl
  walk_at "go"
  exact qRefl (k _ (s1.trans (s2.trans (s3.trans s4))))
end Pw
namespace Pw
def sp_law_box_for (K : PySem.W.Frag) : Sp := fun vs H Q _ => ∃ (a h : Addr) (sizes : List Int) (inside : List (Option Nat)) (size : Int), vs = [.ref a, .ref h, .int size] ∧ SqL K H a (sizes.map V.int) ∧ SqL K H h (inside.map optV) ∧ inside.length = sizes.length ∧ sizes.length ≤ 1000 ∧
  ((∀ b ∈ freeL inside, sizes.getD b 0 < size) → ∀ H', Same H H' → Q .non H') ∧ ∀ b, LB sizes (freeL inside) size b → ∀ H', Same H H' → Q (.int (b : Nat)) H'
theorem len_law_box_for {K : PySem.W.Frag} : ∀ vs H Q E, sp_law_box_for K vs H Q E → vs.length = 3 := by
  rintro vs H Q E ⟨_, _, _, _, _, rfl, _⟩
  rfl
def t_law_box_for (K : PySem.W.Frag) (E : XK) : TS :=
  tSeq (tAsg (tCB (rSortPO K) (tCons (tLc (iRng1 (tCons (tCB (rLenSeq K) (tCons (tVar 0) tNil)) tNil)) (gName 4) (tAnd (tTest (tOp rIsNone (tOp (rIxL K) (tVar 1) (tVar 4)) (tC .non))) (tTest (tOp rGe (tOp (rIxL K) (tVar 0) (tVar 4)) (tVar 2)))) (tTup (tCons (tOp (rIxL K) (tVar 0) (tVar 4)) (tCons (tVar 4) tNil))) [4]) tNil)) (gName 3))
    (tSeq (tIfS (tTest (tOp rEq (tCB (rLenSeq K) (tCons (tVar 3) tNil)) (tC (.int 0)))) (tRet (tC .non)) (tNext))
    (tRet (tOp (rIxT K) (tOp (rIxL K) (tVar 3) (tC (.int 0))) (tC (.int 1)))))
theorem pure_law_box_for {K : PySem.W.Frag} (vs : List V) (H : Hp) (Q : VK) (E : XK) (h : sp_law_box_for K vs H Q E) : t_law_box_for K E { nx := fun _ H' => Q .non H', rt := Q } (start ["sizes", "held", "size", "some", "box"] vs) H := by
  obtain ⟨a, h, sizes, inside, size, rfl, hA, hH, hl, l1, kN, kB⟩ := h
  unfold t_law_box_for
  walk_at "go"
  intro D hD
  refine lcPairs (n := (((sizes.map V.int).length : Nat) : Int).toNat) (fun i => (inside.getD i none).isNone && decide (size ≤ sizes.getD i 0)) (fun i => sizes.getD i 0) (fun i => (i : Int)) hD (by simp; omega) (fun _ => rfl) (fun i H' hi s' TT k' => ?_) (fun i H' hi _ s' Qv k' => ?_) (fun H1 s1 hL => ?_)
  · simp only [List.length_map] at hi
    have e : ((0 : Int) + (i : Int)).toNat = i := by omega
    have sA := s'.seq hA
    have sH := s'.seq hH
    walk_at "go"
    refine ⟨atMap none (by omega) (by omega), ?_⟩
    walk_at "go"
    rw [isNone_opt, e]
    have k2 := k' _ (Same.refl _)
    cases q : (inside.getD i none).isNone with
    | true =>
      rw [q, Bool.true_and] at k2
      walk_at "go"
      rw [e]
      exact k2
    | false =>
      rw [q, Bool.false_and] at k2
      exact k2
  · simp only [List.length_map] at hi
    have e : ((0 : Int) + (i : Int)).toNat = i := by omega
    have sA := s'.seq hA
    walk_at "go"
    rw [e]
    intro t ht
    refine k' t _ (sameNew (Same.refl _) ht) ?_
    rw [show ((0 : Int) + (i : Int)) = (i : Int) by omega]
    exact upd_same
  have e : (((sizes.map V.int).length : Nat) : Int).toNat = inside.length := by simp; omega
  rw [e] at hL
  walk_at "go"
  refine sortedPairs hL fun ps o H2 p1 p2 s2 ho hP => ?_
  have s3 := s1.trans s2
  have mem : ∀ z : Int × Int, z ∈ ps ↔ ∃ b ∈ freeL inside, size ≤ sizes.getD b 0 ∧ z = (sizes.getD b 0, (b : Int)) := by
    intro z
    rw [p1.mem_iff, List.mem_map]
    constructor
    · rintro ⟨b, hb, rfl⟩
      obtain ⟨q1, q2⟩ := List.mem_filter.mp hb
      rw [Bool.and_eq_true] at q2
      exact ⟨b, List.mem_filter.mpr ⟨q1, q2.1⟩, of_decide_eq_true q2.2, rfl⟩
    · rintro ⟨b, hb, q, rfl⟩
      obtain ⟨q1, q2⟩ := List.mem_filter.mp hb
      exact ⟨b, List.mem_filter.mpr ⟨q1, by rw [Bool.and_eq_true]; exact ⟨q2, decide_eq_true q⟩⟩, rfl⟩
  obtain ⟨ys, hy, hyl⟩ := hP.len
  cases ps with
  | nil =>
    have hyl : ys.length = 0 := hyl
    walk_at "go"
    refine kN (fun b hb => ?_) _ s3
    apply Classical.byContradiction
    intro c
    have := (mem (sizes.getD b 0, (b : Int))).mpr ⟨b, hb, by omega, rfl⟩
    cases this
  | cons z r =>
    have hyl : ys.length = r.length + 1 := hyl
    obtain ⟨b, hb, q, rfl⟩ := (mem z).mp List.mem_cons_self
    obtain ⟨y1, t1, w1, w2, w3⟩ := hP.at_ (z := 0) (by omega) (by show (0 : Int) < ((r.length + 1 : Nat) : Int); omega)
    have w3 : H2 t1 = some (.tup [.int (sizes.getD b 0), .int (b : Int)]) := w3
    rw [hy] at w1
    cases w1
    walk_at "go"
    refine kB b ⟨hb, q, fun c hc hq => ?_⟩ _ s3
    have m := (mem (sizes.getD c 0, (c : Int))).mpr ⟨c, hc, hq, rfl⟩
    rcases List.mem_cons.mp m with e | e
    · have := (Prod.mk.inj e)
      omega
    · have := (List.pairwise_cons.mp p2).1 _ e
      unfold LexLe at this
      dsimp only at this
      omega
end Pw
namespace Pw
def sp_law_due_k02 (K : PySem.W.Frag) : Sp := fun vs H Q _ => ∃ (a t d h p : Addr) (sizes : List Int) (inside : List (Option Nat)) (ps : List (Int × Int)) (size nights today : Int), vs = [.ref a, .ref t, .ref d] ∧ SqL K H a (sizes.map V.int) ∧
  H t = some (.lst [.ref h, .ref p, .int today]) ∧ H d = some (.tup [.str "come", .int size, .int nights]) ∧ H h = some (.lst (inside.map optV)) ∧ PairL H p ps ∧ h ≠ p ∧ t ≠ h ∧ t ≠ p ∧ inside.length = sizes.length ∧ sizes.length ≤ 8 ∧ ps.length < 1000 ∧
  (∀ u, Rf sizes inside size nights u → ∀ H', Same H H' → Q (.str u) H') ∧
  ∀ b, In sizes inside size nights b → ∀ H', Kp [h, p] H H' → H' h = some (.lst ((inside.set b (some ps.length)).map optV)) → PairL H' p (ps ++ [(size, today + nights)]) → Q (.int (ps.length : Nat)) H'
theorem len_law_due_k02 {K : PySem.W.Frag} : ∀ vs H Q E, sp_law_due_k02 K vs H Q E → vs.length = 3 := by
  rintro vs H Q E ⟨_, _, _, _, _, _, _, _, _, _, _, rfl, _⟩
  rfl
def t_law_due_k02 (K : PySem.W.Frag) (E : XK) : TS :=
  tSeq (tAsg (tOp (rIxL K) (tVar 1) (tC (.int 0))) (gName 3))
    (tSeq (tAsg (tOp (rIxL K) (tVar 1) (tC (.int 1))) (gName 4))
    (tSeq (tIfS (tTest (tOp rEq (tOp (rIxT K) (tVar 2) (tC (.int 0))) (tC (.str "night")))) (tSeq (tAsg (tOp rAddI (tOp (rIxL K) (tVar 1) (tC (.int 2))) (tC (.int 1))) (gSub (tVar 1) (tC (.int 2)) rSetL))
    (tSeq (tAsg (tLc (iList K (tVar 3)) (gName 7) (tAnd (tTest (tOp rNotNone (tVar 7) (tC .non))) (tTest (tOp rLe (tOp (rIxT K) (tOp (rIxL K) (tVar 4) (tVar 7)) (tC (.int 1))) (tOp (rIxL K) (tVar 1) (tC (.int 2)))))) (tVar 7) [7]) (gName 5))
    (tSeq (tForP (iRng1 (tCons (tCB (rLenSeq K) (tCons (tVar 3) tNil)) tNil)) (gName 6) (tIfS (tTest (tOp (rIn K false) (tOp (rIxL K) (tVar 3) (tVar 6)) (tVar 5))) (tAsg (tC .non) (gSub (tVar 3) (tVar 6) rSetL)) (tNext)))
    (tRet (tCB (rSortedI K) (tCons (tVar 5) tNil)))))) (tNext))
    (tSeq (tIfS (tTest (tOp rEq (tOp (rIxT K) (tVar 2) (tC (.int 0))) (tC (.str "fetch")))) (tSeq (tIfS (tTest (tOp (rInN K) (tOp (rIxT K) (tVar 2) (tC (.int 1))) (tVar 3))) (tRet (tC (.str "NoParcel"))) (tNext))
    (tSeq (tAsg (tBM K "list" (rIndex K) (tVar 3) (tCons (tOp (rIxT K) (tVar 2) (tC (.int 1))) tNil)) (gName 6))
    (tSeq (tAsg (tC .non) (gSub (tVar 3) (tVar 6) rSetL))
    (tRet (tVar 6))))) (tNext))
    (tSeq (tIfS (tOr (tTest (tOp rLt (tOp (rIxT K) (tVar 2) (tC (.int 1))) (tC (.int 1)))) (tTest (tOp rGt (tOp (rIxT K) (tVar 2) (tC (.int 1))) (tC (.int 9))))) (tRet (tC (.str "NoSize"))) (tNext))
    (tSeq (tIfS (tOr (tTest (tOp rLt (tOp (rIxT K) (tVar 2) (tC (.int 2))) (tC (.int 1)))) (tTest (tOp rGt (tOp (rIxT K) (tVar 2) (tC (.int 2))) (tC (.int 9))))) (tRet (tC (.str "NoNights"))) (tNext))
    (tSeq (tAsg (tCall (sp_law_box_for K) [] E0 (tCons (tVar 0) (tCons (tVar 3) (tCons (tOp (rIxT K) (tVar 2) (tC (.int 1))) tNil)))) (gName 6))
    (tSeq (tIfS (tTest (tOp rIsNone (tVar 6) (tC .non))) (tRet (tC (.str "NoBox"))) (tNext))
    (tSeq (tAsg (tCB (rLenSeq K) (tCons (tVar 4) tNil)) (gSub (tVar 3) (tVar 6) rSetL))
    (tSeq (tDrop (tBM K "list" rAppend (tVar 4) (tCons (tTup (tCons (tOp (rIxT K) (tVar 2) (tC (.int 1))) (tCons (tOp rAddI (tOp (rIxL K) (tVar 1) (tC (.int 2))) (tOp (rIxT K) (tVar 2) (tC (.int 2)))) tNil))) tNil)))
    (tRet (tOp (rIxL K) (tVar 3) (tVar 6))))))))))))
theorem pure_law_due_k02 {K : PySem.W.Frag} (vs : List V) (H : Hp) (Q : VK) (E : XK) (h : sp_law_due_k02 K vs H Q E) : t_law_due_k02 K E { nx := fun _ H' => Q .non H', rt := Q } (start ["sizes", "state", "deed", "held", "parcels", "back", "box", "p"] vs) H := by
  obtain ⟨a, t, d, h, p, sizes, inside, ps, size, nights, today, rfl, hA, hT, hD, hH, hP, nhp, nth, ntp, hl, l8, lp, kR, kI⟩ := h
  have hHs := SqL.of (K := K) hH
  unfold t_law_due_k02
  walk_at "go"
  refine ifD (fun c => kR _ (.inl ⟨rfl, by omega⟩) _ (Same.refl _)) (fun c => ?_)
  walk_at "go"
  refine ifD (fun c2 => kR _ (.inl ⟨rfl, by omega⟩) _ (Same.refl _)) (fun c2 => ?_)
  walk_at "go"
  refine ifD (fun c3 => kR _ (.inr (.inl ⟨rfl, by omega, by omega⟩)) _ (Same.refl _)) (fun c3 => ?_)
  walk_at "go"
  refine ifD (fun c4 => kR _ (.inr (.inl ⟨rfl, by omega, by omega⟩)) _ (Same.refl _)) (fun c4 => ?_)
  have cs : 1 ≤ size ∧ size ≤ 9 := by omega
  have cn : 1 ≤ nights ∧ nights ≤ 9 := by omega
  walk_at "go"
  refine ⟨fun hn H1 s1 => ?_, fun b hb H1 s1 => ?_⟩
  · walk_at "go"
    exact kR _ (.inr (.inr ⟨rfl, cs, cn, hn⟩)) _ s1
  have hbl := (mem_free.mp hb.1).1
  have hT1 := s1 _ _ hT
  have hD1 := s1 _ _ hD
  have hH1 := s1 _ _ hH
  have hP1 := hP.mono s1
  obtain ⟨ys, hy, hyl⟩ := hP1.len
  walk_at "go"
  refine ⟨ixN_of (by omega) (by rw [List.length_map]; omega), ?_⟩
  have eb : ((b : Nat) : Int).toNat = b := by omega
  dsimp only
  rw [hyl, eb, setOpt]
  have hH2 : upd H1 h (.lst ((inside.set b (some ps.length)).map optV)) h = some (.lst ((inside.set b (some ps.length)).map optV)) := upd_same
  have hT2 : upd H1 h (.lst ((inside.set b (some ps.length)).map optV)) t = some (.lst [.ref h, .ref p, .int today]) := by rw [upd_ne nth]; exact hT1
  have hD2 : upd H1 h (.lst ((inside.set b (some ps.length)).map optV)) d = some (.tup [.str "come", .int size, .int nights]) := by rw [upd_ne (ne_of hD1 hH1 (by intro q; cases q))]; exact hD1
  have k2 : Kp [h, p] H (upd H1 h (.lst ((inside.set b (some ps.length)).map optV))) := fun x o e n => by rw [upd_ne (fun q => n (by simp [q]))]; exact s1 _ _ e
  have k1 : Kp [h] H1 (upd H1 h (.lst ((inside.set b (some ps.length)).map optV))) := fun x o e n => by rw [upd_ne (fun q => n (by simp [q]))]; exact e
  have hP2 : PairL (upd H1 h (.lst ((inside.set b (some ps.length)).map optV))) p ps := hP1.upd_tup k1 (consNot (Ne.symm nhp) nilNot) fun x u v e => consNot (ne_of e hH1 (by intro q; cases q)) nilNot
  generalize upd H1 h (.lst ((inside.set b (some ps.length)).map optV)) = H2 at hH2 hT2 hD2 hP2 k2 k1
  obtain ⟨ys2, hy2, hyl2⟩ := hP2.len
  walk_at "go"
  intro z hz
  have sz : Same H2 (upd H2 z (.tup [.int size, .int (today + nights)])) := sameNew (Same.refl _) hz
  have hT3 := sz _ _ hT2
  have hH3 := sz _ _ hH2
  have hP3 := hP2.mono sz
  have ez : upd H2 z (.tup [.int size, .int (today + nights)]) z = some (.tup [.int size, .int (today + nights)]) := upd_same
  have k3 := k2.trans (Kp.ofSame sz)
  generalize upd H2 z (.tup [.int size, .int (today + nights)]) = H3 at sz hT3 hH3 hP3 ez k3
  obtain ⟨ys, hy, hyl, hP4⟩ := hP3.snoc ez
  walk_at "go"
  have hH4 : upd H3 p (.lst (ys ++ [V.ref z])) h = some (.lst ((inside.set b (some ps.length)).map optV)) := by rw [upd_ne nhp]; exact hH3
  walk_at "go"
  refine ⟨at_of (j := b) rfl (getMap (List.getElem?_set_self hbl)), ?_⟩
  exact kI b ⟨cs, cn, hb⟩ _ (fun x o e n => by rw [upd_ne (fun q => n (by simp [q]))]; exact k3 x o e n) hH4 hP4
end Pw
namespace Pw
def sp_least_box (K : PySem.W.Frag) : Sp := fun vs H Q _ => ∃ (a f : Addr) (sizes : List Int) (fs : List Nat) (size : Int), vs = [.ref a, .ref f, .int size] ∧ SqL K H a (sizes.map V.int) ∧ SqL K H f (fs.map fun i : Nat => V.int (i : Int)) ∧ sizes.length ≤ 1000 ∧ fs.length ≤ 1000 ∧
  fs.Pairwise (· < ·) ∧ (∀ b ∈ fs, b < sizes.length) ∧ ((∀ b ∈ fs, sizes.getD b 0 < size) → Q .non H) ∧ ∀ b, LB sizes fs size b → Q (.int (b : Nat)) H
theorem len_least_box {K : PySem.W.Frag} : ∀ vs H Q E, sp_least_box K vs H Q E → vs.length = 3 := by
  rintro vs H Q E ⟨_, _, _, _, _, rfl, _⟩
  rfl
def t_least_box (K : PySem.W.Frag) (E : XK) : TS :=
  tSeq (tAsg (tC .non) (gName 3))
    (tSeq (tForP (iList K (tVar 1)) (gName 4) (tIfS (tAnd (tTest (tOp rGe (tOp (rIxL K) (tVar 0) (tVar 4)) (tVar 2))) (tOr (tTest (tOp rIsNone (tVar 3) (tC .non))) (tTest (tOp rLt (tOp (rIxL K) (tVar 0) (tVar 4)) (tOp (rIxL K) (tVar 0) (tVar 3)))))) (tAsg (tVar 4) (gName 3)) (tNext)))
    (tRet (tVar 3)))
theorem pure_least_box {K : PySem.W.Frag} (vs : List V) (H : Hp) (Q : VK) (E : XK) (h : sp_least_box K vs H Q E) : t_least_box K E { nx := fun _ H' => Q .non H', rt := Q } (start ["sizes", "free", "size", "found", "box"] vs) H := by
  obtain ⟨a, f, sizes, fs, size, rfl, hA, hF, l1, l2, srt, hlt, kN, kB⟩ := h
  unfold t_least_box
  walk_at "go"
  refine forList (K := K) (a := f) (xs := fs.map fun i : Nat => V.int (i : Int)) (fun i σ H' => Stop (∃ (v : Option V), H' = H ∧ ((∃ x, σ = [some (.ref a), some (.ref f), some (.int size), some .non, x] ∧ ∀ b ∈ fs.take i, sizes.getD b 0 < size) ∨
      (∃ x b, σ = [some (.ref a), some (.ref f), some (.int size), some (.int ((b : Nat) : Int)), x] ∧ LB sizes (fs.take i) size b)))) ⟨none, rfl, .inl ⟨none, rfl, by simp⟩⟩ ?_ ?_ ?_
  · rintro i σ H' _ ⟨v, rfl, _⟩
    exact hF
  · rintro i x σ H' hi ⟨v, rfl, ⟨y, rfl, hn⟩ | ⟨y, b, rfl, hb⟩⟩
    · obtain ⟨n, hn', rfl⟩ := mapGet hi
      have hlt' := hlt n (List.mem_of_getElem? hn')
      have e : ((n : Nat) : Int).toNat = n := by omega
      walk_at "go"
      rw [e]
      refine ifD (fun c => ?_) (fun c => ?_)
      · walk_at "go"
        refine ⟨none, rfl, .inr ⟨_, n, rfl, ?_⟩⟩
        rw [takeMore hn']
        refine ⟨by simp, c, fun m hm hc => ?_⟩
        rcases List.mem_append.mp hm with q | q
        · have := hn m q; omega
        · rw [List.mem_singleton.mp q]; omega
      · refine ⟨none, rfl, .inl ⟨_, rfl, fun m hm => ?_⟩⟩
        rw [takeMore hn'] at hm
        rcases List.mem_append.mp hm with q | q
        · exact hn m q
        · rw [List.mem_singleton.mp q]; omega
    · obtain ⟨n, hn', rfl⟩ := mapGet hi
      have hlt' := hlt n (List.mem_of_getElem? hn')
      have hltb := hlt b (List.mem_of_mem_take hb.1)
      have e : ((n : Nat) : Int).toNat = n := by omega
      have eb : ((b : Nat) : Int).toNat = b := by omega
      have bn : b < n := by
        have := List.pairwise_iff_getElem.mp srt
        obtain ⟨j, hj, ej⟩ := List.mem_iff_getElem.mp hb.1
        rw [List.length_take] at hj
        rw [List.getElem_take] at ej
        have hi' := getLt hn'
        have q := this j i (by omega) hi' (by omega)
        rw [ej] at q
        have : fs[i] = n := by rw [List.getElem?_eq_getElem hi'] at hn'; exact Option.some.inj hn'
        omega
      have keep : ¬ (size ≤ sizes.getD n 0 ∧ sizes.getD n 0 < sizes.getD b 0) → LB sizes (fs.take (i + 1)) size b := fun c => by
        rw [takeMore hn']
        refine ⟨List.mem_append.mpr (.inl hb.1), hb.2.1, fun m hm hc => ?_⟩
        rcases List.mem_append.mp hm with q | q
        · exact hb.2.2 m q hc
        · rw [List.mem_singleton.mp q] at hc ⊢; omega
      walk_at "go"
      rw [e]
      refine ifD (fun c => ?_) (fun c => ?_)
      · walk_at "go"
        rw [e, eb]
        refine ifD (fun c2 => ?_) (fun c2 => ?_)
        · walk_at "go"
          refine ⟨none, rfl, .inr ⟨_, n, rfl, ?_⟩⟩
          rw [takeMore hn']
          refine ⟨by simp, c, fun m hm hc => ?_⟩
          rcases List.mem_append.mp hm with q | q
          · have := hb.2.2 m q hc
            omega
          · rw [List.mem_singleton.mp q]; omega
        · exact ⟨none, rfl, .inr ⟨_, b, rfl, keep (by omega)⟩⟩
      · exact ⟨none, rfl, .inr ⟨_, b, rfl, keep (by omega)⟩⟩
  · rintro σ H' ⟨v, rfl, ⟨y, rfl, hn⟩ | ⟨y, b, rfl, hb⟩⟩
    · rw [List.length_map, List.take_length] at hn
      walk_at "go"
      exact kN hn
    · rw [List.length_map, List.take_length] at hb
      walk_at "go"
      exact kB b hb
end Pw
namespace Pw
def sp_Wall_come (K : PySem.W.Frag) : Sp := fun vs H Q E => ∃ (s : WS), WallAt K H s ∧ ∃ (size nights : Int), vs = [.ref s.w, .int size, .int nights] ∧ s.parcels.length < 1000 ∧
  (¬ (1 ≤ size ∧ size ≤ 9) → E (.ref (He.ga K "NoSize")) none H) ∧
  ((1 ≤ size ∧ size ≤ 9) → ¬ (1 ≤ nights ∧ nights ≤ 9) → E (.ref (He.ga K "NoNights")) none H) ∧
  ((1 ≤ size ∧ size ≤ 9) → (1 ≤ nights ∧ nights ≤ 9) → (∀ b ∈ freeL s.inside, s.sizes.getD b 0 < size) → ∀ H', Same H H' → E (.ref (He.ga K "NoBox")) none H') ∧
  ((1 ≤ size ∧ size ≤ 9) → (1 ≤ nights ∧ nights ≤ 9) → ∀ b H', LB s.sizes (freeL s.inside) size b → Frm s H H' → WallAt K H' (s.came b size (s.today + nights)) → Q (.int (s.parcels.length : Nat)) H')
theorem len_Wall_come {K : PySem.W.Frag} : ∀ vs H Q E, sp_Wall_come K vs H Q E → vs.length = 3 := by
  rintro vs H Q E ⟨_, _, _, _, rfl, _⟩
  rfl
def t_Wall_come (K : PySem.W.Frag) (E : XK) : TS :=
  tSeq (tIfS (tNot (tB (tCall (sp_is_size K) [] E0 (tCons (tVar 1) tNil)))) (tRaise E (He.ga K "NoSize")) (tNext))
    (tSeq (tIfS (tOr (tTest (tOp rLt (tVar 2) (tC (.int 1)))) (tTest (tOp rGt (tVar 2) (tC (.int 9))))) (tRaise E (He.ga K "NoNights")) (tNext))
    (tSeq (tAsg (tCall (sp_least_box K) [] E0 (tCons (tFld K (tVar 0) "boxes") (tCons (tMeth (He.ga K "Wall") "free" (sp_Wall_free K) [] E0 (tVar 0) tNil) (tCons (tVar 1) tNil)))) (gName 3))
    (tSeq (tIfS (tTest (tOp rIsNone (tVar 3) (tC .non))) (tRaise E (He.ga K "NoBox")) (tNext))
    (tSeq (tDrop (tBM K "list" rAppend (tFld K (tVar 0) "parcels") (tCons (tTup (tCons (tVar 1) (tCons (tOp rAddI (tFld K (tVar 0) "today") (tVar 2)) tNil))) tNil)))
    (tSeq (tAsg (tOp rSubI (tCB (rLenSeq K) (tCons (tFld K (tVar 0) "parcels") tNil)) (tC (.int 1))) (gSub (tFld K (tVar 0) "inside") (tVar 3) rSetL))
    (tRet (tOp rSubI (tCB (rLenSeq K) (tCons (tFld K (tVar 0) "parcels") tNil)) (tC (.int 1)))))))))
theorem pure_Wall_come {K : PySem.W.Frag} (T : TW K) (vs : List V) (H : Hp) (Q : VK) (E : XK) (h : sp_Wall_come K vs H Q E) : t_Wall_come K E { nx := fun _ H' => Q .non H', rt := Q } (start ["self", "size", "nights", "box"] vs) H := by
  obtain ⟨s, A, size, nights, rfl, hp, e1, e2, e3, k⟩ := h
  obtain ⟨tcl, tnb, tni, tnp, tnt⟩ := id T
  have hob := A.ob
  have hbx := A.bx
  have h8 := A.l8
  have hl := A.len
  unfold t_Wall_come
  walk_at "go"
  refine ifN (fun c => e1 c) (fun c => ?_)
  walk_at "go"
  refine ifD (fun c2 => e2 c (by omega)) (fun c2 => ?_)
  walk_at "go"
  refine ifD (fun c3 => e2 c (by omega)) (fun c3 => ?_)
  have cn : 1 ≤ nights ∧ nights ≤ 9 := by omega
  walk_at "go"
  intro H1 p s1 hp0 hp1
  have A1 := A.mono s1
  have hob1 := A1.ob
  have hbx1 := SqL.of (K := K) A1.bx
  have fl := free_len s.inside
  walk_at "go"
  refine ⟨free_lt _, fun b hb => by have := (mem_free.mp hb).1; omega, fun hn => ?_, fun b hb => ?_⟩
  · walk_at "go"
    exact e3 c cn hn _ s1
  · obtain ⟨ts, hps, htl, htt⟩ := A1.ps
    have hbl := (mem_free.mp hb.1).1
    walk_at "go"
    intro t ht
    have st : Same H1 (upd H1 t (.tup [V.int size, V.int (s.today + nights)])) := sameNew (Same.refl _) ht
    have A2 := A1.mono st
    have e : upd H1 t (.tup [V.int size, V.int (s.today + nights)]) t = some (.tup [V.int size, V.int (s.today + nights)]) := upd_same
    have hps2 := st _ _ hps
    have htt2 : ∀ (j : Nat) (t' : Addr), ts[j]? = some t' → upd H1 t (.tup [V.int size, V.int (s.today + nights)]) t' = some (.tup [.int (s.parcels.getD j (0, 0)).1, .int (s.parcels.getD j (0, 0)).2]) := fun j t' q => st _ _ (htt j t' q)
    have Z := A2.came (b := b) hps2 htl htt2 e hp
    have s2 := s1.trans st
    generalize upd H1 t (.tup [V.int size, V.int (s.today + nights)]) = H2 at A2 e hps2 htt2 Z s2
    have hob2 := A2.ob
    walk_at "go"
    have hob3 : upd H2 s.l3 (.lst (ts.map V.ref ++ [V.ref t])) s.w = some (.ins (He.ga K "Wall") s.dx (wf s.l1 s.l2 s.l3 s.today)) := by
      rw [upd_ne (ne_of hob2 hps2 (by intro q; cases q))]; exact hob2
    have his3 : upd H2 s.l3 (.lst (ts.map V.ref ++ [V.ref t])) s.l2 = some (.lst (s.inside.map optV)) := by rw [upd_ne A.n23]; exact A2.is
    have hl3 : upd H2 s.l3 (.lst (ts.map V.ref ++ [V.ref t])) s.l3 = some (.lst (ts.map V.ref ++ [V.ref t])) := upd_same
    walk_at "go"
    refine ⟨ixN_of (by omega) (by rw [List.length_map]; omega), ?_⟩
    have e5 : (((ts.map V.ref ++ [V.ref t]).length : Nat) : Int) - 1 = ((s.parcels.length : Nat) : Int) := by
      rw [List.length_append, List.length_map, List.length_singleton, htl]; omega
    have eb : ((b : Nat) : Int).toNat = b := by omega
    dsimp only
    rw [e5, eb, setOpt]
    have hob4 := Z.ob
    have hl4 : upd (upd H2 s.l3 (.lst (ts.map V.ref ++ [V.ref t]))) s.l2 (.lst ((s.inside.set b (some s.parcels.length)).map optV)) s.l3 = some (.lst (ts.map V.ref ++ [V.ref t])) := by
      rw [upd_ne (Ne.symm A.n23)]; exact hl3
    have hob4 : upd (upd H2 s.l3 (.lst (ts.map V.ref ++ [V.ref t]))) s.l2 (.lst ((s.inside.set b (some s.parcels.length)).map optV)) s.w = some (.ins (He.ga K "Wall") s.dx (wf s.l1 s.l2 s.l3 s.today)) := hob4
    walk_at "go"
    dsimp only
    rw [e5]
    refine k c cn b _ hb (fun x o ex n1 n2 n3 => ?_) Z
    rw [upd_ne n2, upd_ne n3]
    exact s2 _ _ ex
end Pw
namespace Pw
def marks02 (u : Str) : List V := [.bl (decide (V.str u = V.str "NoSize")), .bl (decide (V.str u = V.str "NoNights")), .bl (decide (V.str u = V.str "NoBox")), .bl false, .bl false, .bl false]
def sp_law_told_k02 (K : PySem.W.Frag) : Sp := fun vs H Q _ => ∃ (s : WS), WallAt K H s ∧ ∃ (size nights : Int), vs = [.ref s.w, .int size, .int nights] ∧ s.parcels.length < 1000 ∧
  (∀ u, Rf s.sizes s.inside size nights u → ∀ H' p e, Same H H' → H' p = some (.tup [.str "refused", .ref e]) → H' e = some (.lst (marks02 u)) → Q (.ref p) H') ∧
  (∀ b, In s.sizes s.inside size nights b → ∀ H' p, Frm s H H' → WallAt K H' (s.came b size (s.today + nights)) → H' p = some (.tup [.str "in", .int (s.parcels.length : Nat)]) → Q (.ref p) H')
theorem marksN1 : marks02 "NoSize" = [.bl true, .bl false, .bl false, .bl false, .bl false, .bl false] := by decide +kernel
theorem marksN2 : marks02 "NoNights" = [.bl false, .bl true, .bl false, .bl false, .bl false, .bl false] := by decide +kernel
theorem marksN3 : marks02 "NoBox" = [.bl false, .bl false, .bl true, .bl false, .bl false, .bl false] := by decide +kernel
theorem len_law_told_k02 {K : PySem.W.Frag} : ∀ vs H Q E, sp_law_told_k02 K vs H Q E → vs.length = 3 := by
  rintro vs H Q E ⟨_, _, _, _, rfl, _⟩
  rfl
def t_law_told_k02 (K : PySem.W.Frag) (E : XK) : TS :=
  tSeq (tTryAs K (.ref (He.ga K "WallError")) 4 (fun W => tAsg (tMethS (He.ga K "Wall") "come" (sp_Wall_come K) (WE W) (tVar 0) (tCons (tVar 1) (tCons (tVar 2) tNil))) (gName 3)) (fun a cls d => tSeq (tAsg (tLst (tCons (tCB (rIsX K cls d a) (tCons (tVar 4) (tCons (tC (.ref (He.ga K "NoSize"))) tNil))) (tCons (tCB (rIsX K cls d a) (tCons (tVar 4) (tCons (tC (.ref (He.ga K "NoNights"))) tNil))) (tCons (tCB (rIsX K cls d a) (tCons (tVar 4) (tCons (tC (.ref (He.ga K "NoBox"))) tNil))) (tCons (tCB (rIsX K cls d a) (tCons (tVar 4) (tCons (tC (.ref (He.ga K "NoWall"))) tNil))) tNil))))) (gName 5))
    (tRet (tTup (tCons (tC (.str "refused")) (tCons (tOp rCat (tVar 5) (tLst (tCons (tCB (rIsX K cls d a) (tCons (tVar 4) (tCons (tC (.ref (He.ga K "NoParcel"))) tNil))) (tCons (tNotV (tCB (rIsX K cls d a) (tCons (tVar 4) (tCons (tC (.ty "ValueError")) tNil)))) tNil)))) tNil))))) (wNone))
    (tRet (tTup (tCons (tC (.str "in")) (tCons (tVar 3) tNil))))
theorem pure_law_told_k02 {K : PySem.W.Frag} {l : List Str} (X : XS K l) (hl : ((["WallError", "NoWall", "NoSize", "NoNights", "NoBox", "NoParcel"] : List Str).all fun x => l.contains x) = true) (vs : List V) (H : Hp) (Q : VK) (E : XK) (h : sp_law_told_k02 K vs H Q E) : t_law_told_k02 K E { nx := fun _ H' => Q .non H', rt := Q } (start ["side", "size", "nights", "found", "e", "marks"] vs) H := by
  obtain ⟨s, A, size, nights, rfl, hp, kR, kI⟩ := h
  have hob := A.ob
  have mem : ∀ {z : Str}, z ∈ (["WallError", "NoWall", "NoSize", "NoNights", "NoBox", "NoParcel"] : List Str) → z ∈ l := fun hz => inAll hl hz
  have mW : ("NoWall" : Str) ∈ l := mem (by simp)
  have mS : ("NoSize" : Str) ∈ l := mem (by simp)
  have mN : ("NoNights" : Str) ∈ l := mem (by simp)
  have mB : ("NoBox" : Str) ∈ l := mem (by simp)
  have mP : ("NoParcel" : Str) ∈ l := mem (by simp)
  have mE : ("WallError" : Str) ∈ l := mem (by simp)
  unfold t_law_told_k02 tTryAs
  walk_at "go"
  refine ⟨fun c => ?_, fun c cn => ?_, fun c cn hn H' s' => ?_, fun c cn b H' hb F A' => ?_⟩
  · have x0 := X.exm (b := true) mS mE (by rfl)
    have xc := X.c mS
    have xv := X.v mS
    have k1 := X.kit (b := true) mS mS (by decide +kernel)
    have k2 := X.kit (b := false) mS mN (by decide +kernel)
    have k3 := X.kit (b := false) mS mB (by decide +kernel)
    have k4 := X.kit (b := false) mS mW (by decide +kernel)
    have k5 := X.kit (b := false) mS mP (by decide +kernel)
    walk_at "go"
    refine ⟨fun _ e he => ?_, fun z => (by cases z)⟩
    walk_at "go"
    intro m hm
    walk_at "go"
    intro m2 hm2
    walk_at "go"
    intro m3 hm3
    walk_at "go"
    intro p hp
    exact kR _ (.inl ⟨rfl, c⟩) _ p m3 (by walk_at "same") upd_same (by rw [marksN1]; walk_at "heap")
  · have x0 := X.exm (b := true) mN mE (by rfl)
    have xc := X.c mN
    have xv := X.v mN
    have k1 := X.kit (b := true) mN mN (by decide +kernel)
    have k2 := X.kit (b := false) mN mS (by decide +kernel)
    have k3 := X.kit (b := false) mN mB (by decide +kernel)
    have k4 := X.kit (b := false) mN mW (by decide +kernel)
    have k5 := X.kit (b := false) mN mP (by decide +kernel)
    walk_at "go"
    refine ⟨fun _ e he => ?_, fun z => (by cases z)⟩
    walk_at "go"
    intro m hm
    walk_at "go"
    intro m2 hm2
    walk_at "go"
    intro m3 hm3
    walk_at "go"
    intro p hp
    exact kR _ (.inr (.inl ⟨rfl, c, cn⟩)) _ p m3 (by walk_at "same") upd_same (by rw [marksN2]; walk_at "heap")
  · have x0 := X.exm (b := true) mB mE (by rfl)
    have xc := X.c mB
    have xv := X.v mB
    have k1 := X.kit (b := true) mB mB (by decide +kernel)
    have k2 := X.kit (b := false) mB mS (by decide +kernel)
    have k3 := X.kit (b := false) mB mN (by decide +kernel)
    have k4 := X.kit (b := false) mB mW (by decide +kernel)
    have k5 := X.kit (b := false) mB mP (by decide +kernel)
    walk_at "go"
    refine ⟨fun _ e he => ?_, fun z => (by cases z)⟩
    walk_at "go"
    intro m hm
    walk_at "go"
    intro m2 hm2
    walk_at "go"
    intro m3 hm3
    walk_at "go"
    intro p hp
    exact kR _ (.inr (.inr ⟨rfl, c, cn, hn⟩)) _ p m3 (s'.trans (by walk_at "same")) upd_same (by rw [marksN3]; walk_at "heap")
  · walk_at "go"
    intro p hp
    have st : Same H' (upd H' p (.tup [.str "in", .int (s.parcels.length : Nat)])) := sameNew (Same.refl _) hp
    exact kI b ⟨c, cn, hb⟩ _ p (fun x o e n1 n2 n3 => st _ _ (F x o e n1 n2 n3)) (A'.mono st) upd_same
end Pw
namespace Pw
def sp_law_k02 (K : PySem.W.Frag) : Sp := fun vs H Q _ => ∃ (a : Addr) (ns : List Int), vs = [.ref a] ∧ SqL K H a (ns.map V.int) ∧ ns.length ≤ 63 ∧ ∀ H', Q (.bl true) H'
theorem len_law_k02 {K : PySem.W.Frag} : ∀ vs H Q E, sp_law_k02 K vs H Q E → vs.length = 1 := by
  rintro vs H Q E ⟨_, _, rfl, _⟩
  rfl
def t_law_k02 (K : PySem.W.Frag) (E : XK) : TS :=
  tSeq (tAsg (tCall (sp_law_sizes_by K) [] E0 (tCons (tVar 0) (tCons (tC (.int 0)) tNil))) (gName 1))
    (tSeq (tAsg (tMake (He.ga K "Wall") (sp_Wall_init K) [] E0 (tCons (tCB (rListOf K) (tCons (tVar 1) tNil)) tNil)) (gName 2))
    (tSeq (tAsg (tMake (He.ga K "Wall") (sp_Wall_init K) [] E0 (tCons (tCB (rListOf K) (tCons (tVar 1) tNil)) tNil)) (gName 3))
    (tSeq (tAsg (tLst (tCons (tLc (iList K (tVar 1)) (gName 6) tYes (tC .non) [6]) (tCons (tLst tNil) (tCons (tC (.int 0)) tNil)))) (gName 4))
    (tSeq (tForP (iRng1 (tCons (tCall (sp_law_drawn K) [] E0 (tCons (tVar 0) (tCons (tC (.int 20)) (tCons (tC (.int 13)) tNil)))) tNil)) (gName 5) (tSeq (tAsg (tOp rAddI (tC (.int 1)) (tCall (sp_law_drawn K) [] E0 (tCons (tVar 0) (tCons (tOp rAddI (tC (.int 30)) (tOp rMulI (tC (.int 8)) (tVar 5))) (tCons (tOp (rIxL K) (tLst (tCons (tC (.int 3)) (tCons (tC (.int 5)) (tCons (tC (.int 9)) tNil)))) (tCall (sp_law_drawn K) [] E0 (tCons (tVar 0) (tCons (tC (.int 21)) (tCons (tC (.int 3)) tNil))))) tNil))))) (gName 6))
    (tSeq (tAsg (tOp rAddI (tC (.int 1)) (tCall (sp_law_drawn K) [] E0 (tCons (tVar 0) (tCons (tOp rAddI (tC (.int 31)) (tOp rMulI (tC (.int 8)) (tVar 5))) (tCons (tC (.int 9)) tNil))))) (gName 7))
    (tCutP (tIfS (tTest (tOp rEq (tCall (sp_law_drawn K) [] E0 (tCons (tVar 0) (tCons (tOp rAddI (tC (.int 32)) (tOp rMulI (tC (.int 8)) (tVar 5))) (tCons (tC (.int 10)) tNil)))) (tC (.int 1)))) (tAsg (tOp (rIxL K) (tLst (tCons (tC (.int 0)) (tCons (tC (.int 10)) (tCons (tUn rNeg (tC (.int 1))) (tCons (tOp rPow (tC (.int 10)) (tC (.int 9))) tNil))))) (tCall (sp_law_drawn K) [] E0 (tCons (tVar 0) (tCons (tOp rAddI (tC (.int 33)) (tOp rMulI (tC (.int 8)) (tVar 5))) (tCons (tC (.int 4)) tNil))))) (gName 6)) (tNext))
    (tCutP (tIfS (tTest (tOp rEq (tCall (sp_law_drawn K) [] E0 (tCons (tVar 0) (tCons (tOp rAddI (tC (.int 34)) (tOp rMulI (tC (.int 8)) (tVar 5))) (tCons (tC (.int 10)) tNil)))) (tC (.int 1)))) (tAsg (tOp (rIxL K) (tLst (tCons (tC (.int 0)) (tCons (tC (.int 10)) (tCons (tUn rNeg (tC (.int 1))) (tCons (tOp rPow (tC (.int 10)) (tC (.int 9))) tNil))))) (tCall (sp_law_drawn K) [] E0 (tCons (tVar 0) (tCons (tOp rAddI (tC (.int 35)) (tOp rMulI (tC (.int 8)) (tVar 5))) (tCons (tC (.int 4)) tNil))))) (gName 7)) (tNext))
    (tSeq (tAsg (tCall (sp_law_due_k02 K) [] E0 (tCons (tVar 1) (tCons (tVar 4) (tCons (tTup (tCons (tC (.str "come")) (tCons (tVar 6) (tCons (tVar 7) tNil)))) tNil)))) (gName 8))
    (tSeq (tAsg (tCall (sp_law_told_k02 K) [] E0 (tCons (tVar 2) (tCons (tVar 6) (tCons (tVar 7) tNil)))) (gName 9))
    (tCutP (tIfS (tB (tCB (rIsi K) (tCons (tVar 8) (tCons (tC (.ty "str")) tNil)))) (tIfS (tTest (tOp (rNeDI K) (tVar 9) (tTup (tCons (tC (.str "refused")) (tCons (tLst (tCons (tOp rEq (tVar 8) (tC (.str "NoSize"))) (tCons (tOp rEq (tVar 8) (tC (.str "NoNights"))) (tCons (tOp rEq (tVar 8) (tC (.str "NoBox"))) (tCons (tC (.bl false)) (tCons (tC (.bl false)) (tCons (tC (.bl false)) tNil))))))) tNil))))) (tRet (tC (.bl false))) (tNext)) (tIfS (tOr (tTest (tOp rNe (tOp (rIxT K) (tVar 9) (tC (.int 0))) (tC (.str "in")))) (tOr (tNot (tB (tCall (sp_law_whole K) [] E0 (tCons (tOp (rIxT K) (tVar 9) (tC (.int 1))) tNil)))) (tTest (tOp rNe (tOp (rIxT K) (tVar 9) (tC (.int 1))) (tVar 8))))) (tRet (tC (.bl false))) (tNext)))
    (tIfS (tNot (tB (tCall (sp_law_stands K) [] E0 (tCons (tVar 2) (tCons (tVar 1) (tCons (tOp (rIxL K) (tVar 4) (tC (.int 0))) (tCons (tC (.int 0)) tNil))))))) (tRet (tC (.bl false))) (tNext))))))))))
    (tRet (tCall (sp_law_stands K) [] E0 (tCons (tVar 3) (tCons (tVar 1) (tCons (tLc (iList K (tVar 1)) (gName 6) tYes (tC .non) [6]) (tCons (tC (.int 0)) tNil))))))))))
theorem pure_law_k02 {K : PySem.W.Frag} (T : TW K) (vs : List V) (H : Hp) (Q : VK) (E : XK) (h : sp_law_k02 K vs H Q E) : t_law_k02 K E { nx := fun _ H' => Q .non H', rt := Q } (start ["script", "sizes", "side", "other", "state", "k", "size", "nights", "due", "found"] vs) H := by
  obtain ⟨a, ns, rfl, hS, hl, k⟩ := h
  unfold t_law_k02
  walk_at "go"
  intro zs ok H1 D s1 hD0 hD
  have lz := ok.2.1
  walk_at "go"
  intro d hd
  refine newWall (zs := zs) (SqL.of upd_same) ok fun x dx l1 l2 l3 H2 s2 A nx n1 n2 n3 => ?_
  have sd : Same H1 (upd H1 d (.lst (zs.map V.int))) := sameNew (Same.refl _) hd
  have s2 := sd.trans s2
  have hS2 := s2.seq (s1.seq hS)
  have hD2 := s2 _ _ hD
  have fx : H1 x = none := sd.free nx
  have f2 : H1 l2 = none := sd.free n2
  have f3 : H1 l3 = none := sd.free n3
  have e3 : H2 l3 = some (.lst []) := let ⟨ts, q, q2, _⟩ := A.ps; by cases ts with | nil => exact q | cons _ _ => cases q2
  clear hd sd nx n1 n2 n3
  walk_at "go"
  intro d hd
  refine newWall (zs := zs) (SqL.of upd_same) ok fun y dy m1 m2 m3 H3 s3 B ny n1 n2 n3 => ?_
  have sd : Same H2 (upd H2 d (.lst (zs.map V.int))) := sameNew (Same.refl _) hd
  have s3 := sd.trans s3
  have hS3 := s3.seq hS2
  have hD3 := s3 _ _ hD2
  have A3 := A.mono s3
  have gy : H2 y = none := sd.free ny
  have g1 : H2 m1 = none := sd.free n1
  have g2 : H2 m2 = none := sd.free n2
  have g3 : H2 m3 = none := sd.free n3
  clear hd sd ny n1 n2 n3
  walk_at "go"
  intro h hh
  refine lcMap (inj := V.int) (ns := zs) (fun _ => true) (fun _ => V.non) hh (SqL.of hD3) (by omega) (fun _ => rfl) (fun i n H' hi s' TT k' => ?_) (fun i n H' hi _ s' Qv k' => ?_) (fun H4 s4 hh4 => ?_)
  · exact k' _ (Same.refl _)
  · walk_at "go"
    exact k' _ (Same.refl _)
  rw [filterAll, repOpt] at hh4
  walk_at "go"
  intro p hp
  walk_at "go"
  intro t ht
  have s5 : Same H4 (upd (upd H4 p (.lst [])) t (.lst [.ref h, .ref p, .int 0])) := by walk_at "same"
  have A5 := A3.mono (s4.trans s5)
  have B5 := B.mono (s4.trans s5)
  have hh5 := s5 _ _ hh4
  have hp5 : upd (upd H4 p (.lst [])) t (.lst [.ref h, .ref p, .int 0]) p = some (.lst []) := by walk_at "heap"
  have ht5 : upd (upd H4 p (.lst [])) t (.lst [.ref h, .ref p, .int 0]) t = some (.lst [.ref h, .ref p, .int 0]) := upd_same
  have hD5 := s5 _ _ (s4 _ _ hD3)
  have sA : Same H1 (upd (upd H4 p (.lst [])) t (.lst [.ref h, .ref p, .int 0])) := s2.trans (s3.trans (s4.trans s5))
  have thp : t ≠ p := updFreeNe ht
  have ht : H4 t = none := updFree ht
  have thh : t ≠ h := Ne.symm (ne_of_none hh4 ht)
  have fh : H1 h = none := (s2.trans s3).free hh
  have fp : H1 p = none := (s2.trans (s3.trans s4)).free hp
  have hhp : h ≠ p := ne_of_none hh4 hp
  have e3 : H3 l3 = some (.lst []) := s3 _ _ e3
  have e3' : H3 m3 = some (.lst []) := let ⟨ts, q, q2, _⟩ := B.ps; by cases ts with | nil => exact q | cons _ _ => cases q2
  have nB : ∀ z o, H2 z = none → H3 z = some o → z ∉ [x, l2, l3, h, p] := fun z o h2 h3 => by
    have n1 : z ≠ x := Ne.symm (ne_of_none A.ob h2)
    have n2 : z ≠ l2 := Ne.symm (ne_of_none A.is h2)
    have n3 : z ≠ l3 := fun e => by
      obtain ⟨ts, q, _⟩ := A.ps
      exact ne_of_none q h2 e.symm
    have n4 : z ≠ h := ne_of_none h3 hh
    have n5 : z ≠ p := ne_of_none (s4 _ _ h3) hp
    simp [n1, n2, n3, n4, n5]
  have tB : t ∉ [x, l2, l3, h, p] := by
    have n1 : t ≠ x := Ne.symm (ne_of_none (s4 _ _ A3.ob) ht)
    have n2 : t ≠ l2 := Ne.symm (ne_of_none (s4 _ _ A3.is) ht)
    have n3 : t ≠ l3 := Ne.symm (ne_of_none (s4 _ _ e3) ht)
    simp [n1, n2, n3, thh, thp]
  have hx : h ≠ x := Ne.symm (ne_of_none A3.ob hh)
  have h1 : h ≠ l1 := Ne.symm (ne_of_none A3.bx hh)
  have h2 : h ≠ l2 := Ne.symm (ne_of_none A3.is hh)
  have h3 : h ≠ l3 := Ne.symm (ne_of_none e3 hh)
  have px : p ≠ x := Ne.symm (ne_of_none (s4 _ _ A3.ob) hp)
  have p1 : p ≠ l1 := Ne.symm (ne_of_none (s4 _ _ A3.bx) hp)
  have p2 : p ≠ l2 := Ne.symm (ne_of_none (s4 _ _ A3.is) hp)
  have p3 : p ≠ l3 := Ne.symm (ne_of_none (s4 _ _ e3) hp)
  have nby := nB y _ gy B.ob
  have nb1 := nB m1 _ g1 B.bx
  have nb2 := nB m2 _ g2 B.is
  have nb3 := nB m3 _ g3 e3'
  generalize upd (upd H4 p (.lst [])) t (.lst [.ref h, .ref p, .int 0]) = H5 at s5 A5 B5 hh5 hp5 ht5 hD5 sA
  have sv : Same H1 (hide H5 [x, l2, l3, h, p]) := sameHide sA fun z hz => by
    simp only [List.mem_cons, List.not_mem_nil, or_false] at hz
    rcases hz with rfl | rfl | rfl | rfl | rfl <;> assumption
  have kv : Kp [x, l2, l3, h, p] H5 (hide H5 [x, l2, l3, h, p]) := fun b o e n => hideGet e n
  have hcase : ∀ z, z ∈ [x, l2, l3, h, p] → ∃ o, H5 z = some o ∧ ∀ u v, o ≠ .tup [u, v] := fun z hz => by
    simp only [List.mem_cons, List.not_mem_nil, or_false] at hz
    rcases hz with rfl | rfl | rfl | rfl | rfl
    · exact ⟨_, A5.ob, fun u v q => by cases q⟩
    · exact ⟨_, A5.is, fun u v q => by cases q⟩
    · exact ⟨_, (s4.trans s5) _ _ e3, fun u v q => by cases q⟩
    · exact ⟨_, hh5, fun u v q => by cases q⟩
    · exact ⟨_, hp5, fun u v q => by cases q⟩
  have Bv := B5.keep kv nby nb1 nb2 nb3 fun b u v e m => by
    obtain ⟨o, q1, q2⟩ := hcase b m
    rw [e] at q1
    exact q2 u v (Option.some.inj q1).symm
  have tv : hide H5 [x, l2, l3, h, p] t = some (.lst [.ref h, .ref p, .int 0]) := hideGet ht5 tB
  have s6 := hide_same H5 [x, l2, l3, h, p]
  have hSv := sv.seq (s1.seq hS)
  have hDv := sv _ _ hD
  have subA : ∀ z ∈ [x, l2, l3], z ∈ [x, l2, l3, h, p] := fun z hz => by
    simp only [List.mem_cons, List.not_mem_nil, or_false] at hz ⊢
    rcases hz with rfl | rfl | rfl <;> simp
  have subB : ∀ z ∈ [h, p], z ∈ [x, l2, l3, h, p] := fun z hz => by
    simp only [List.mem_cons, List.not_mem_nil, or_false] at hz ⊢
    rcases hz with rfl | rfl <;> simp
  clear hcase kv nby nb1 nb2 nb3 nB tB B B5 hD5 ht5 sA s5 hD3 hS3 A3 hD2 hS2 s4 s3 s2 hh4 hh hp e3 e3' A gy g1 g2 g3 ht
  have i0 : Same (hide H5 [x, l2, l3, h, p]) H5 := s6
  clear s6
  have step : ∀ {H H'}, Same (hide H5 [x, l2, l3, h, p]) H → Same H H' → Same (hide H5 [x, l2, l3, h, p]) H' := fun a b => a.trans b
  have stA : ∀ {H H' : Hp}, Same (hide H5 [x, l2, l3, h, p]) H → Kp [x, l2, l3] H H' → Same (hide H5 [x, l2, l3, h, p]) H' := fun a b => hideStep a b subA
  have stB : ∀ {H H' : Hp}, Same (hide H5 [x, l2, l3, h, p]) H → Kp [h, p] H H' → Same (hide H5 [x, l2, l3, h, p]) H' := fun a b => hideStep a b subB
  generalize hide H5 [x, l2, l3, h, p] = Hv at sv Bv tv hSv hDv i0 step stA stB
  clear subA subB
  walk_at "go"
  intro m0 m1'
  walk_at "go"
  refine forRange (n := (drawn ns 20 13).toNat) (fun i σ H' => Stop (∃ (v5 v6 v7 v8 v9 : Option V) (is : List (Option Nat)) (ps : List (Int × Int)), σ = [some (.ref a), some (.ref D), some (.ref x), some (.ref y), some (.ref t), v5, v6, v7, v8, v9] ∧ Same Hv H' ∧
      WallAt K H' ⟨x, dx, l1, l2, l3, zs, is, ps, 0⟩ ∧ H' h = some (.lst (is.map optV)) ∧ PairL H' p ps ∧ ps.length ≤ i)) ⟨none, none, none, none, none, _, [], rfl, i0, A5, hh5, PairL.nil hp5, Nat.le_refl _⟩ ?_ ?_
  · rintro i σ H6 hi ⟨v5, v6, v7, v8, v9, is, ps, rfl, s6, A6, hh6, hp6, lp⟩
    have hi : i < 13 := by omega
    have hS6 := s6.seq hSv
    have hD6 := s6 _ _ hDv
    walk_at "go"
    intro J hJ
    have sJ : Same H6 (upd H6 J (.lst [V.int 3, V.int 5, V.int 9])) := sameNew (Same.refl _) hJ
    have hS7 := sJ.seq hS6
    walk_at "go"
    intro e0 e1
    walk_at "go"
    refine ⟨atInt (xs := [3, 5, 9]) e0 e1, ?_⟩
    have ht : 1 ≤ ([3, 5, 9] : List Int).getD (drawn ns 21 3).toNat 0 ∧ ([3, 5, 9] : List Int).getD (drawn ns 21 3).toNat 0 ≤ (9 : Int) := by
      have q : (drawn ns 21 3).toNat = 0 ∨ (drawn ns 21 3).toNat = 1 ∨ (drawn ns 21 3).toNat = 2 := by omega
      rcases q with q | q | q <;> rw [q] <;> decide
    generalize ([3, 5, 9] : List Int).getD (drawn ns 21 3).toNat 0 = top at ht ⊢
    generalize upd H6 J (.lst [V.int 3, V.int 5, V.int 9]) = H7 at sJ hS7
    walk_at "go"
    intro d0 d1
    generalize drawn ns (30 + 8 * (0 + (i : Int))) top = dr at d0 d1 ⊢
    walk_at "go"
    intro d2 d3
    generalize drawn ns (31 + 8 * (0 + (i : Int))) 9 = dn at d2 d3 ⊢
    walk_at "go"
    refine cut (fun σ H8 => Stop (∃ size : Int, σ = [some (.ref a), some (.ref D), some (.ref x), some (.ref y), some (.ref t), some (.int (0 + (i : Int))), some (.int size), some (.int (1 + dn)), v8, v9] ∧ Same H6 H8)) ?_ ?_
    · walk_at "go"
      intro c0 c1
      walk_at "go"
      refine ifD (fun c => ?_) (fun c => ?_)
      · walk_at "go"
        intro q hq
        have sq : Same H7 (upd H7 q (.lst [.int 0, .int 10, .int (-1), .int (10 ^ (9 : Int).toNat)])) := sameNew (Same.refl _) hq
        have hS8 := sq.seq hS7
        walk_at "go"
        intro c2 c3
        walk_at "go"
        refine ⟨atInt (xs := [0, 10, -1, 10 ^ (9 : Int).toNat]) c2 c3, ?_⟩
        walk_at "go"
        exact ⟨_, rfl, sJ.trans sq⟩
      · exact ⟨_, rfl, sJ⟩
    rintro σ H8 ⟨size, rfl, s8⟩
    clear sJ hS7 ht d0 d1 dr
    have hS8 := s8.seq hS6
    refine cut (fun σ H9 => Stop (∃ nights : Int, σ = [some (.ref a), some (.ref D), some (.ref x), some (.ref y), some (.ref t), some (.int (0 + (i : Int))), some (.int size), some (.int nights), v8, v9] ∧ Same H6 H9)) ?_ ?_
    · walk_at "go"
      intro c0 c1
      walk_at "go"
      refine ifD (fun c => ?_) (fun c => ?_)
      · walk_at "go"
        intro q hq
        have sq : Same H8 (upd H8 q (.lst [.int 0, .int 10, .int (-1), .int (10 ^ (9 : Int).toNat)])) := sameNew (Same.refl _) hq
        have hS9 := sq.seq hS8
        walk_at "go"
        intro c2 c3
        walk_at "go"
        refine ⟨atInt (xs := [0, 10, -1, 10 ^ (9 : Int).toNat]) c2 c3, ?_⟩
        walk_at "go"
        exact ⟨_, rfl, s8.trans sq⟩
      · exact ⟨_, rfl, s8⟩
    rintro σ H9 ⟨nights, rfl, s9⟩
    clear s8 hS8 d2 d3 dn
    have A9 := A6.mono s9
    have hh9 := s9 _ _ hh6
    have hp9 := hp6.mono s9
    have sv9 := step s6 s9
    have hD9 := sv9 _ _ hDv
    have ht9 := sv9 _ _ tv
    have lis := A9.len
    dsimp only at lis
    walk_at "go"
    intro z hz
    have sz : Same H9 (upd H9 z (.tup [.str "come", .int size, .int nights])) := sameNew (Same.refl _) hz
    have A10 := A9.mono sz
    have hh10 := sz _ _ hh9
    have hp10 := hp9.mono sz
    have sv10 := step sv9 sz
    have hD10 := sz _ _ hD9
    have ht10 := sz _ _ ht9
    have hz10 : upd H9 z (.tup [.str "come", .int size, .int nights]) z = some (.tup [.str "come", .int size, .int nights]) := upd_same
    generalize upd H9 z (.tup [.str "come", .int size, .int nights]) = H10 at A10 hh10 hp10 sv10 hD10 ht10 hz10
    clear A6 hh6 hp6 A9 hh9 hp9 s9 sv9 hD9 ht9 sz hz s6 hS6 hD6
    walk_at "go"
    refine ⟨fun u hu H11 s11 => ?_, fun b hb H11 k11 hh11 hp11 => ?_⟩
    · have A11 := A10.mono s11
      have lp1 : ps.length < 1000 := by omega
      walk_at "go"
      refine ⟨fun v hv H12 p' e' s12 hp' he' => ?_, fun b hb => (hb.not hu).elim⟩
      have ev := hu.uniq hv
      subst ev
      walk_at "go"
      refine cut (fun σ H' => Stop (∃ (v8 v9 : Option V) (is : List (Option Nat)) (ps : List (Int × Int)), σ = [some (.ref a), some (.ref D), some (.ref x), some (.ref y), some (.ref t), some (.int (0 + (i : Int))), some (.int size), some (.int nights), v8, v9] ∧ Same Hv H' ∧
        WallAt K H' ⟨x, dx, l1, l2, l3, zs, is, ps, 0⟩ ∧ H' h = some (.lst (is.map optV)) ∧ PairL H' p ps ∧ ps.length ≤ i + 1)) ?_ ?_
      · walk_at "go"
        intro m hm
        walk_at "go"
        intro q hq
        have s13 : Same H12 (upd (upd H12 m (.lst (marks02 u))) q (.tup [.str "refused", .ref m])) := by walk_at "same"
        have hm13 : upd (upd H12 m (.lst (marks02 u))) q (.tup [.str "refused", .ref m]) m = some (.lst (marks02 u)) := by walk_at "heap"
        have hp13 := s13 _ _ hp'
        have he13 := s13 _ _ he'
        let bs : List Bool := [decide (V.str u = V.str "NoSize"), decide (V.str u = V.str "NoNights"), decide (V.str u = V.str "NoBox"), false, false, false]
        have s14 := s11.trans (s12.trans s13)
        refine neSame (dpPair hp13 (.str "refused") (dpBools bs (SqL.of he13))) (dpPair upd_same (.str "refused") (dpBools bs (SqL.of hm13))) (plPair ((plStr "refused" (by decide +kernel)).up (by decide)) (plBools bs)) ?_
        walk_at "go"
        exact ⟨_, _, is, ps, rfl, step sv10 s14, A10.mono s14, s14 _ _ hh10, hp10.mono s14, by omega⟩
      · rintro σ H12 ⟨v8, v9, is, ps, rfl, s12, A12, hh12, hp12, lp⟩
        have hD12 := s12 _ _ hDv
        have ht12 := s12 _ _ tv
        walk_at "go"
        intro H13 s13
        walk_at "go"
        exact ⟨_, _, _, _, _, is, ps, rfl, step s12 s13, A12.mono s13, s13 _ _ hh12, hp12.mono s13, lp⟩
    · have tn : ∀ z u v, H10 z = some (.tup [u, v]) → z ∉ [h, p] := fun z u v e => by
        obtain ⟨ys, q, _⟩ := hp10.len
        exact consNot (ne_of e hh10 (by intro q; cases q)) (consNot (ne_of e q (by intro q; cases q)) nilNot)
      have l3n : l3 ∉ [h, p] := consNot (Ne.symm h3) (consNot (Ne.symm p3) nilNot)
      have A11 := A10.keep k11 (consNot (Ne.symm hx) (consNot (Ne.symm px) nilNot)) (consNot (Ne.symm h1) (consNot (Ne.symm p1) nilNot)) (consNot (Ne.symm h2) (consNot (Ne.symm p2) nilNot)) l3n tn
      have sv11 := stB sv10 k11
      have lp1 : ps.length < 1000 := by omega
      walk_at "go"
      refine ⟨fun v hv => (hb.not hv).elim, fun b' hb' H12 p' F12 A12 hp' => ?_⟩
      have eb := hb.2.2.uniq hb'.2.2
      subst eb
      have sv12 := stA sv11 (Kp.ofFrm F12)
      have hh12 := F12 h _ hh11 hx h2 h3
      have hp12 := hp11.upd_tup (Kp.ofFrm F12) (consNot px (consNot p2 (consNot p3 nilNot))) fun z u v e => by
        obtain ⟨ts, q, _⟩ := A11.ps
        exact consNot (ne_of e A11.ob (by intro q; cases q)) (consNot (ne_of e A11.is (by intro q; cases q)) (consNot (ne_of e q (by intro q; cases q)) nilNot))
      walk_at "go"
      refine cut (fun σ H' => Stop (∃ (v8 v9 : Option V) (is : List (Option Nat)) (ps : List (Int × Int)), σ = [some (.ref a), some (.ref D), some (.ref x), some (.ref y), some (.ref t), some (.int (0 + (i : Int))), some (.int size), some (.int nights), v8, v9] ∧ Same Hv H' ∧
        WallAt K H' ⟨x, dx, l1, l2, l3, zs, is, ps, 0⟩ ∧ H' h = some (.lst (is.map optV)) ∧ PairL H' p ps ∧ ps.length ≤ i + 1)) ?_ ?_
      · walk_at "go"
        exact ⟨_, _, is.set b (some ps.length), ps ++ [(size, 0 + nights)], rfl, sv12, A12, hh12, hp12, by rw [List.length_append, List.length_singleton]; omega⟩
      · rintro σ H12 ⟨v8, v9, is, ps, rfl, s12, A12, hh12, hp12, lp⟩
        have hD12 := s12 _ _ hDv
        have ht12 := s12 _ _ tv
        walk_at "go"
        intro H13 s13
        walk_at "go"
        exact ⟨_, _, _, _, _, is, ps, rfl, step s12 s13, A12.mono s13, s13 _ _ hh12, hp12.mono s13, lp⟩
  · rintro σ H6 ⟨v5, v6, v7, v8, v9, is, ps, rfl, s6, A6, hh6, hp6, lp⟩
    have hD6 := s6 _ _ hDv
    have B6 := Bv.mono s6
    walk_at "go"
    intro q hq
    refine lcMap (inj := V.int) (ns := zs) (fun _ => true) (fun _ => V.non) hq (SqL.of hD6) (by omega) (fun _ => rfl) (fun i n H' hi s' TT k' => ?_) (fun i n H' hi _ s' Qv k' => ?_) (fun H7 s7 hq7 => ?_)
    · exact k' _ (Same.refl _)
    · walk_at "go"
      exact k' _ (Same.refl _)
    rw [filterAll, repOpt] at hq7
    have B7 := B6.mono s7
    have hD7 := s7 _ _ hD6
    walk_at "go"
    intro H8 s8
    exact k _
end Pw
namespace Pw
def top (i : Nat) : Stmt := PySem.Challenge.pw_parcelwall_k02_parcels_come.main.body.getD i (.Pass ⟨0, 0, 0, 0⟩)
abbrev R : PySem.W.OpenRow := PySem.W.OpenLaw.row PySem.Challenge.rw_parcelwall_k02_parcels_come
abbrev s_law_drawn : Stmt := (top 15)
def d_law_drawn : He.DefD := ⟨("_law_drawn", none), "_law_drawn", "_law_drawn", defArgs s_law_drawn, defBody s_law_drawn, defScope s_law_drawn, [], []⟩
abbrev s_law_sizes_by : Stmt := (top 19)
def d_law_sizes_by : He.DefD := ⟨("_law_sizes_by", none), "_law_sizes_by", "_law_sizes_by", defArgs s_law_sizes_by, defBody s_law_sizes_by, defScope s_law_sizes_by, [], []⟩
abbrev s_is_size : Stmt := (top 11)
def d_is_size : He.DefD := ⟨("is_size", none), "is_size", "is_size", defArgs s_is_size, defBody s_is_size, defScope s_is_size, [], []⟩
abbrev s_Wall_init : Stmt := (inClass (top 13) 0)
def d_Wall_init : He.DefD := ⟨("Wall", some "__init__"), "__init__", "Wall.__init__", defArgs s_Wall_init, defBody s_Wall_init, defScope s_Wall_init, [], []⟩
abbrev s_Wall_day : Stmt := (inClass (top 13) 3)
def d_Wall_day : He.DefD := ⟨("Wall", some "day"), "day", "Wall.day", defArgs s_Wall_day, defBody s_Wall_day, defScope s_Wall_day, [], []⟩
abbrev s_law_whole : Stmt := (top 16)
def d_law_whole : He.DefD := ⟨("_law_whole", none), "_law_whole", "_law_whole", defArgs s_law_whole, defBody s_law_whole, defScope s_law_whole, [], []⟩
abbrev s_law_row : Stmt := (top 17)
def d_law_row : He.DefD := ⟨("_law_row", none), "_law_row", "_law_row", defArgs s_law_row, defBody s_law_row, defScope s_law_row, [], []⟩
abbrev s_law_held : Stmt := (top 20)
def d_law_held : He.DefD := ⟨("_law_held", none), "_law_held", "_law_held", defArgs s_law_held, defBody s_law_held, defScope s_law_held, [], []⟩
abbrev s_Wall_sizes : Stmt := (inClass (top 13) 1)
def d_Wall_sizes : He.DefD := ⟨("Wall", some "sizes"), "sizes", "Wall.sizes", defArgs s_Wall_sizes, defBody s_Wall_sizes, defScope s_Wall_sizes, [], []⟩
abbrev s_Wall_held : Stmt := (inClass (top 13) 2)
def d_Wall_held : He.DefD := ⟨("Wall", some "held"), "held", "Wall.held", defArgs s_Wall_held, defBody s_Wall_held, defScope s_Wall_held, [], []⟩
abbrev s_Wall_free : Stmt := (inClass (top 13) 4)
def d_Wall_free : He.DefD := ⟨("Wall", some "free"), "free", "Wall.free", defArgs s_Wall_free, defBody s_Wall_free, defScope s_Wall_free, [], []⟩
abbrev s_law_stands : Stmt := (top 21)
def d_law_stands : He.DefD := ⟨("_law_stands", none), "_law_stands", "_law_stands", defArgs s_law_stands, defBody s_law_stands, defScope s_law_stands, [], []⟩
abbrev s_law_box_for : Stmt := (top 22)
def d_law_box_for : He.DefD := ⟨("_law_box_for", none), "_law_box_for", "_law_box_for", defArgs s_law_box_for, defBody s_law_box_for, defScope s_law_box_for, [], []⟩
abbrev s_law_due_k02 : Stmt := (top 23)
def d_law_due_k02 : He.DefD := ⟨("_law_due", none), "_law_due", "_law_due", defArgs s_law_due_k02, defBody s_law_due_k02, defScope s_law_due_k02, [], []⟩
abbrev s_least_box : Stmt := (top 12)
def d_least_box : He.DefD := ⟨("least_box", none), "least_box", "least_box", defArgs s_least_box, defBody s_least_box, defScope s_least_box, [], []⟩
abbrev s_Wall_come : Stmt := (inClass (top 13) 8)
def d_Wall_come : He.DefD := ⟨("Wall", some "come"), "come", "Wall.come", defArgs s_Wall_come, defBody s_Wall_come, defScope s_Wall_come, [], []⟩
abbrev s_law_told_k02 : Stmt := (top 24)
def d_law_told_k02 : He.DefD := ⟨("_law_told", none), "_law_told", "_law_told", defArgs s_law_told_k02, defBody s_law_told_k02, defScope s_law_told_k02, [], []⟩
abbrev s_law_k02 : Stmt := (top 25)
def d_law_k02 : He.DefD := ⟨("law", none), "law", "law", defArgs s_law_k02, defBody s_law_k02, defScope s_law_k02, [], []⟩
def fn : List He.DefD := [d_law_drawn, d_law_sizes_by, d_is_size, d_Wall_init, d_Wall_day, d_law_whole, d_law_row, d_law_held, d_Wall_sizes, d_Wall_held, d_Wall_free, d_law_stands, d_law_box_for, d_law_due_k02, d_least_box, d_Wall_come, d_law_told_k02, d_law_k02]
def xl : List Str := ["WallError", "NoWall", "NoSize", "NoNights", "NoBox", "NoParcel"]
def fa : List He.Fa := [.free "ValueError", .free "bool", .free "int", .free "isinstance", .free "len", .free "list", .free "range", .free "sorted", .free "str", .glo "NoBox", .glo "NoNights", .glo "NoParcel", .glo "NoSize", .glo "NoWall", .glo "Wall", .glo "WallError", .glo "_law_box_for", .glo "_law_drawn", .glo "_law_due", .glo "_law_held", .glo "_law_row", .glo "_law_sizes_by", .glo "_law_stands", .glo "_law_told", .glo "_law_whole", .glo "is_size", .glo "law", .glo "least_box", .int "MOST_BOXES" 8, .int "MOST_SIZE" 9, .exc "NoBox", .exc "NoNights", .exc "NoSize", .exc "NoWall", .cls "Wall", .noat "Wall" "boxes", .noat "Wall" "inside", .noat "Wall" "parcels", .noat "Wall" "today", .mkr "Wall", .meth "Wall" "come", .meth "Wall" "day", .meth "Wall" "free", .meth "Wall" "held", .meth "Wall" "sizes"]
theorem f_ValueError {h : Heap} {mg : Str → Option Value} {K : PySem.W.Frag} (KX : K.In h) (G : h.Ns mainGlobals mg) (c : He.SaysD fa fn K) : mg "ValueError" = none := He.free_ok KX G (c.fact 0)
theorem f_bool {h : Heap} {mg : Str → Option Value} {K : PySem.W.Frag} (KX : K.In h) (G : h.Ns mainGlobals mg) (c : He.SaysD fa fn K) : mg "bool" = none := He.free_ok KX G (c.fact 1)
theorem f_int {h : Heap} {mg : Str → Option Value} {K : PySem.W.Frag} (KX : K.In h) (G : h.Ns mainGlobals mg) (c : He.SaysD fa fn K) : mg "int" = none := He.free_ok KX G (c.fact 2)
theorem f_isinstance {h : Heap} {mg : Str → Option Value} {K : PySem.W.Frag} (KX : K.In h) (G : h.Ns mainGlobals mg) (c : He.SaysD fa fn K) : mg "isinstance" = none := He.free_ok KX G (c.fact 3)
theorem f_len {h : Heap} {mg : Str → Option Value} {K : PySem.W.Frag} (KX : K.In h) (G : h.Ns mainGlobals mg) (c : He.SaysD fa fn K) : mg "len" = none := He.free_ok KX G (c.fact 4)
theorem f_list {h : Heap} {mg : Str → Option Value} {K : PySem.W.Frag} (KX : K.In h) (G : h.Ns mainGlobals mg) (c : He.SaysD fa fn K) : mg "list" = none := He.free_ok KX G (c.fact 5)
theorem f_range {h : Heap} {mg : Str → Option Value} {K : PySem.W.Frag} (KX : K.In h) (G : h.Ns mainGlobals mg) (c : He.SaysD fa fn K) : mg "range" = none := He.free_ok KX G (c.fact 6)
theorem f_sorted {h : Heap} {mg : Str → Option Value} {K : PySem.W.Frag} (KX : K.In h) (G : h.Ns mainGlobals mg) (c : He.SaysD fa fn K) : mg "sorted" = none := He.free_ok KX G (c.fact 7)
theorem f_str {h : Heap} {mg : Str → Option Value} {K : PySem.W.Frag} (KX : K.In h) (G : h.Ns mainGlobals mg) (c : He.SaysD fa fn K) : mg "str" = none := He.free_ok KX G (c.fact 8)
theorem g_NoBox {h : Heap} {mg : Str → Option Value} {K : PySem.W.Frag} (KX : K.In h) (G : h.Ns mainGlobals mg) (c : He.SaysD fa fn K) : mg "NoBox" = some (.ref (He.ga K "NoBox")) := He.glo_ok KX G (c.fact 9)
theorem g_NoNights {h : Heap} {mg : Str → Option Value} {K : PySem.W.Frag} (KX : K.In h) (G : h.Ns mainGlobals mg) (c : He.SaysD fa fn K) : mg "NoNights" = some (.ref (He.ga K "NoNights")) := He.glo_ok KX G (c.fact 10)
theorem g_NoParcel {h : Heap} {mg : Str → Option Value} {K : PySem.W.Frag} (KX : K.In h) (G : h.Ns mainGlobals mg) (c : He.SaysD fa fn K) : mg "NoParcel" = some (.ref (He.ga K "NoParcel")) := He.glo_ok KX G (c.fact 11)
theorem g_NoSize {h : Heap} {mg : Str → Option Value} {K : PySem.W.Frag} (KX : K.In h) (G : h.Ns mainGlobals mg) (c : He.SaysD fa fn K) : mg "NoSize" = some (.ref (He.ga K "NoSize")) := He.glo_ok KX G (c.fact 12)
theorem g_NoWall {h : Heap} {mg : Str → Option Value} {K : PySem.W.Frag} (KX : K.In h) (G : h.Ns mainGlobals mg) (c : He.SaysD fa fn K) : mg "NoWall" = some (.ref (He.ga K "NoWall")) := He.glo_ok KX G (c.fact 13)
theorem g_Wall {h : Heap} {mg : Str → Option Value} {K : PySem.W.Frag} (KX : K.In h) (G : h.Ns mainGlobals mg) (c : He.SaysD fa fn K) : mg "Wall" = some (.ref (He.ga K "Wall")) := He.glo_ok KX G (c.fact 14)
theorem g_WallError {h : Heap} {mg : Str → Option Value} {K : PySem.W.Frag} (KX : K.In h) (G : h.Ns mainGlobals mg) (c : He.SaysD fa fn K) : mg "WallError" = some (.ref (He.ga K "WallError")) := He.glo_ok KX G (c.fact 15)
theorem g_law_box_for {h : Heap} {mg : Str → Option Value} {K : PySem.W.Frag} (KX : K.In h) (G : h.Ns mainGlobals mg) (c : He.SaysD fa fn K) : mg "_law_box_for" = some (.ref (He.ga K "_law_box_for")) := He.glo_ok KX G (c.fact 16)
theorem g_law_drawn {h : Heap} {mg : Str → Option Value} {K : PySem.W.Frag} (KX : K.In h) (G : h.Ns mainGlobals mg) (c : He.SaysD fa fn K) : mg "_law_drawn" = some (.ref (He.ga K "_law_drawn")) := He.glo_ok KX G (c.fact 17)
theorem g_law_due {h : Heap} {mg : Str → Option Value} {K : PySem.W.Frag} (KX : K.In h) (G : h.Ns mainGlobals mg) (c : He.SaysD fa fn K) : mg "_law_due" = some (.ref (He.ga K "_law_due")) := He.glo_ok KX G (c.fact 18)
theorem g_law_held {h : Heap} {mg : Str → Option Value} {K : PySem.W.Frag} (KX : K.In h) (G : h.Ns mainGlobals mg) (c : He.SaysD fa fn K) : mg "_law_held" = some (.ref (He.ga K "_law_held")) := He.glo_ok KX G (c.fact 19)
theorem g_law_row {h : Heap} {mg : Str → Option Value} {K : PySem.W.Frag} (KX : K.In h) (G : h.Ns mainGlobals mg) (c : He.SaysD fa fn K) : mg "_law_row" = some (.ref (He.ga K "_law_row")) := He.glo_ok KX G (c.fact 20)
theorem g_law_sizes_by {h : Heap} {mg : Str → Option Value} {K : PySem.W.Frag} (KX : K.In h) (G : h.Ns mainGlobals mg) (c : He.SaysD fa fn K) : mg "_law_sizes_by" = some (.ref (He.ga K "_law_sizes_by")) := He.glo_ok KX G (c.fact 21)
theorem g_law_stands {h : Heap} {mg : Str → Option Value} {K : PySem.W.Frag} (KX : K.In h) (G : h.Ns mainGlobals mg) (c : He.SaysD fa fn K) : mg "_law_stands" = some (.ref (He.ga K "_law_stands")) := He.glo_ok KX G (c.fact 22)
theorem g_law_told {h : Heap} {mg : Str → Option Value} {K : PySem.W.Frag} (KX : K.In h) (G : h.Ns mainGlobals mg) (c : He.SaysD fa fn K) : mg "_law_told" = some (.ref (He.ga K "_law_told")) := He.glo_ok KX G (c.fact 23)
theorem g_law_whole {h : Heap} {mg : Str → Option Value} {K : PySem.W.Frag} (KX : K.In h) (G : h.Ns mainGlobals mg) (c : He.SaysD fa fn K) : mg "_law_whole" = some (.ref (He.ga K "_law_whole")) := He.glo_ok KX G (c.fact 24)
theorem g_is_size {h : Heap} {mg : Str → Option Value} {K : PySem.W.Frag} (KX : K.In h) (G : h.Ns mainGlobals mg) (c : He.SaysD fa fn K) : mg "is_size" = some (.ref (He.ga K "is_size")) := He.glo_ok KX G (c.fact 25)
theorem g_law {h : Heap} {mg : Str → Option Value} {K : PySem.W.Frag} (KX : K.In h) (G : h.Ns mainGlobals mg) (c : He.SaysD fa fn K) : mg "law" = some (.ref (He.ga K "law")) := He.glo_ok KX G (c.fact 26)
theorem g_least_box {h : Heap} {mg : Str → Option Value} {K : PySem.W.Frag} (KX : K.In h) (G : h.Ns mainGlobals mg) (c : He.SaysD fa fn K) : mg "least_box" = some (.ref (He.ga K "least_box")) := He.glo_ok KX G (c.fact 27)
theorem c_MOST_BOXES {h : Heap} {mg : Str → Option Value} {K : PySem.W.Frag} (KX : K.In h) (G : h.Ns mainGlobals mg) (c : He.SaysD fa fn K) : ∃ t, mg "MOST_BOXES" = some (.int 8 t) := He.int_ok KX G (c.fact 28)
theorem c_MOST_SIZE {h : Heap} {mg : Str → Option Value} {K : PySem.W.Frag} (KX : K.In h) (G : h.Ns mainGlobals mg) (c : He.SaysD fa fn K) : ∃ t, mg "MOST_SIZE" = some (.int 9 t) := He.int_ok KX G (c.fact 29)
theorem x_NoBox {K : PySem.W.Frag} (c : He.SaysD fa fn K) : PySem.W.excIn K (He.ga K "NoBox") He.veBase "ValueError.__new__" = true ∧ PySem.W.keepIn K (.ref (He.ga K "NoBox")) = true ∧ PySem.W.subIn K (.ref (He.ga K "NoBox")) (.type "BaseException") = some true ∧ PySem.W.typeIn K (.ref (He.ga K "NoBox")) = some (.type "type") := He.exc_ok (c.fact 30)
theorem x_NoNights {K : PySem.W.Frag} (c : He.SaysD fa fn K) : PySem.W.excIn K (He.ga K "NoNights") He.veBase "ValueError.__new__" = true ∧ PySem.W.keepIn K (.ref (He.ga K "NoNights")) = true ∧ PySem.W.subIn K (.ref (He.ga K "NoNights")) (.type "BaseException") = some true ∧ PySem.W.typeIn K (.ref (He.ga K "NoNights")) = some (.type "type") := He.exc_ok (c.fact 31)
theorem x_NoSize {K : PySem.W.Frag} (c : He.SaysD fa fn K) : PySem.W.excIn K (He.ga K "NoSize") He.veBase "ValueError.__new__" = true ∧ PySem.W.keepIn K (.ref (He.ga K "NoSize")) = true ∧ PySem.W.subIn K (.ref (He.ga K "NoSize")) (.type "BaseException") = some true ∧ PySem.W.typeIn K (.ref (He.ga K "NoSize")) = some (.type "type") := He.exc_ok (c.fact 32)
theorem x_NoWall {K : PySem.W.Frag} (c : He.SaysD fa fn K) : PySem.W.excIn K (He.ga K "NoWall") He.veBase "ValueError.__new__" = true ∧ PySem.W.keepIn K (.ref (He.ga K "NoWall")) = true ∧ PySem.W.subIn K (.ref (He.ga K "NoWall")) (.type "BaseException") = some true ∧ PySem.W.typeIn K (.ref (He.ga K "NoWall")) = some (.type "type") := He.exc_ok (c.fact 33)
theorem clW {K : PySem.W.Frag} (c : He.SaysD fa fn K) : Cls K (He.ga K "Wall") := He.cls_ok (c.fact 34)
theorem tW {K : PySem.W.Frag} (c : He.SaysD fa fn K) : TW K := ⟨clW c, He.noat_ok (c.fact 35), He.noat_ok (c.fact 36), He.noat_ok (c.fact 37), He.noat_ok (c.fact 38)⟩
theorem mkW {K : PySem.W.Frag} (c : He.SaysD fa fn K) : Mk K (He.ga K "Wall") (He.ma K (He.ga K "Wall") "__init__") := He.mkr_ok (c.fact 39)
theorem m_Wall_come {K : PySem.W.Frag} (c : He.SaysD fa fn K) : Meth K (He.ga K "Wall") "come" (He.ma K (He.ga K "Wall") "come") := He.meth_ok (c.fact 40)
theorem m_Wall_day {K : PySem.W.Frag} (c : He.SaysD fa fn K) : Meth K (He.ga K "Wall") "day" (He.ma K (He.ga K "Wall") "day") := He.meth_ok (c.fact 41)
theorem m_Wall_free {K : PySem.W.Frag} (c : He.SaysD fa fn K) : Meth K (He.ga K "Wall") "free" (He.ma K (He.ga K "Wall") "free") := He.meth_ok (c.fact 42)
theorem m_Wall_held {K : PySem.W.Frag} (c : He.SaysD fa fn K) : Meth K (He.ga K "Wall") "held" (He.ma K (He.ga K "Wall") "held") := He.meth_ok (c.fact 43)
theorem m_Wall_sizes {K : PySem.W.Frag} (c : He.SaysD fa fn K) : Meth K (He.ga K "Wall") "sizes" (He.ma K (He.ga K "Wall") "sizes") := He.meth_ok (c.fact 44)
theorem sc_law_drawn : FnScope ["script", "k", "many", "cell", "stir"] ["script", "k", "many"] (defScope s_law_drawn) := ⟨rfl, rfl, rfl, by decide +kernel, rfl, by decide +kernel, by decide +kernel⟩
theorem ok_law_drawn {P : Program} {w : World} {base : Heap} {h : Heap} {mg : Str → Option Value} {K : PySem.W.Frag} (KX : K.In h) (G : h.Ns mainGlobals mg) (c : He.SaysD fa fn K) (xs : XS K xl) : OkF P w K mg base CX0 1 (He.fAd K d_law_drawn.at_) ["script", "k", "many"] (sp_law_drawn K) := by
  obtain ⟨fd, F⟩ := c.def_ 0 (d := d_law_drawn) rfl
  have nd := sc_law_drawn.nd
  refine ⟨fd, F.ok sc_law_drawn (len_law_drawn (K := K)) (fun cdv A outer s H vs Q E hr hsp => ⟨t_law_drawn K E, PSs.nox ?_, pure_law_drawn vs H Q E hsp⟩), F.bindsN (fun _ _ _ _ _ _ us hl => match us, hl with | [_, _, _], _ => rfl), F.kp⟩
  exact pss_cons (ps_set (i := 3) nd rfl (Or.inl rfl) (pe_int))
      (pss_cons (ps_if (pt_cmpR op_gt (pe_callB call_len_seq (by rfl) (f_len KX G c) (by decide +kernel) (pa_cons (pv 0) pa_nil)) (pe_int) (nomark _))
        (pss_one (ps_set (i := 3) nd rfl (Or.inl rfl) (pe_ix ix_list (pv 0) (pe_op op_modN (pv 1) (pe_callB call_len_seq (by rfl) (f_len KX G c) (by decide +kernel) (pa_cons (pv 0) pa_nil))) (fun _ _ => rfl))))
        (pss_nil))
      (pss_cons (ps_set (i := 4) nd rfl (Or.inl rfl) (pe_op op_mod (pe_op op_add (pe_op op_add (pe_op op_mul (pv 3) (pe_int)) (pe_op op_mul (pe_op op_add (pv 1) (pe_int)) (pe_int))) (pe_callB call_len_seq (by rfl) (f_len KX G c) (by decide +kernel) (pa_cons (pv 0) pa_nil))) (pe_int)))
      (pss_cons (ps_set (i := 4) nd rfl (Or.inl rfl) (pe_op op_mod (pe_op op_add (pe_op op_add (pe_op op_mul (pv 4) (pv 4)) (pe_op op_mul (pv 1) (pe_int))) (pe_int)) (pe_int)))
      (pss_one (ps_ret (pe_op op_modN (pe_op op_fdiv (pe_op op_mod (pe_op op_mul (pv 4) (pe_int)) (pe_int)) (pe_int)) (pv 2)))))))
theorem sc_law_sizes_by : FnScope ["script", "base", "many", "top", "k"] ["script", "base"] (defScope s_law_sizes_by) := ⟨rfl, rfl, rfl, by decide +kernel, rfl, by decide +kernel, by decide +kernel⟩
theorem ok_law_sizes_by {P : Program} {w : World} {base : Heap} {h : Heap} {mg : Str → Option Value} {K : PySem.W.Frag} (KX : K.In h) (G : h.Ns mainGlobals mg) (c : He.SaysD fa fn K) (xs : XS K xl) : OkF P w K mg base CX0 2 (He.fAd K d_law_sizes_by.at_) ["script", "base"] (sp_law_sizes_by K) := by
  obtain ⟨fd, F⟩ := c.def_ 1 (d := d_law_sizes_by) rfl
  obtain ⟨fd_law_drawn, G_law_drawn, b_law_drawn, k_law_drawn⟩ := ok_law_drawn (P := P) (w := w) (base := base) KX G c xs
  have nd := sc_law_sizes_by.nd
  refine ⟨fd, F.ok sc_law_sizes_by (len_law_sizes_by (K := K)) (fun cdv A outer s H vs Q E hr hsp => ⟨t_law_sizes_by K E, PSs.nox ?_, pure_law_sizes_by vs H Q E hsp⟩), F.bindsN (fun _ _ _ _ _ _ us hl => match us, hl with | [_, _], _ => rfl), F.kp⟩
  exact pss_cons (ps_set (i := 2) nd rfl (Or.inl rfl) (pe_op op_add (pe_int) (pe_call G_law_drawn (hr.mono (by decide : 1 ≤ 1)) rfl (g_law_drawn KX G c) k_law_drawn b_law_drawn .nil pass0 (pa_cons (pv 0) (pa_cons (pv 1) (pa_cons (pe_int) pa_nil))))))
      (pss_cons (ps_set (i := 3) nd rfl (Or.inr rfl) (pe_ix ix_list (pe_lst (pa_cons (pe_int) (pa_cons (pe_int) (pa_cons (pe_int) pa_nil)))) (pe_call G_law_drawn (hr.mono (by decide : 1 ≤ 1)) rfl (g_law_drawn KX G c) k_law_drawn b_law_drawn .nil pass0 (pa_cons (pv 0) (pa_cons (pe_op op_add (pv 1) (pe_int)) (pa_cons (pe_int) pa_nil)))) (fun _ _ => rfl)))
      (pss_one (ps_ret (pe_lc (own := [("k", 4)]) (g := gName 4) rfl nd (pi_range1 rfl (f_range KX G c) (pa_cons (pv 2) pa_nil)) (blkOk_by (N := ["script", "base", "many", "top", "k"]) (sc := defScope s_law_sizes_by) (by decide +kernel)) (fun _ _ _ _ _ => pg_name (i := 4) nd rfl (Or.inl rfl)) (fun _ _ _ _ _ => pts_nil) (fun _ _ _ _ _ => pe_op op_add (pe_int) (pe_call G_law_drawn (hr.mono (by decide : 1 ≤ 1)) rfl (g_law_drawn KX G c) k_law_drawn b_law_drawn .nil pass0 (pa_cons (pv 0) (pa_cons (pe_op op_add (pe_op op_add (pv 1) (pe_int)) (pv 4)) (pa_cons (pv 3) pa_nil)))))))))
theorem sc_is_size : FnScope ["number"] ["number"] (defScope s_is_size) := ⟨rfl, rfl, rfl, by decide +kernel, rfl, by decide +kernel, by decide +kernel⟩
theorem ok_is_size {P : Program} {w : World} {base : Heap} {h : Heap} {mg : Str → Option Value} {K : PySem.W.Frag} (KX : K.In h) (G : h.Ns mainGlobals mg) (c : He.SaysD fa fn K) (xs : XS K xl) : OkF P w K mg base CX0 1 (He.fAd K d_is_size.at_) ["number"] (sp_is_size K) := by
  obtain ⟨fd, F⟩ := c.def_ 2 (d := d_is_size) rfl
  have nd := sc_is_size.nd
  refine ⟨fd, F.ok sc_is_size (len_is_size (K := K)) (fun cdv A outer s H vs Q E hr hsp => ⟨t_is_size K E, PSs.nox ?_, pure_is_size vs H Q E hsp⟩), F.bindsN (fun _ _ _ _ _ _ us hl => match us, hl with | [_], _ => rfl), F.kp⟩
  exact pss_one (ps_ret (pe_and (pe_cmpR op_le (pe_int) (pv 0) (nomark _)) (pe_one (pe_cmpR op_le (pv 0) (pe_glob rfl (c_MOST_SIZE KX G c).choose_spec ⟨_, rfl⟩) (nomark _)))))
theorem sc_Wall_init : FnScope ["self", "sizes", "size"] ["self", "sizes"] (defScope s_Wall_init) := ⟨rfl, rfl, rfl, by decide +kernel, rfl, by decide +kernel, by decide +kernel⟩
theorem ok_Wall_init {P : Program} {w : World} {base : Heap} {h : Heap} {mg : Str → Option Value} {K : PySem.W.Frag} (KX : K.In h) (G : h.Ns mainGlobals mg) (c : He.SaysD fa fn K) (xs : XS K xl) : OkF P w K mg base (L2.CX P w) 2 (He.fAd K d_Wall_init.at_) ["self", "sizes"] (sp_Wall_init K) := by
  obtain ⟨fd, F⟩ := c.def_ 3 (d := d_Wall_init) rfl
  obtain ⟨fd_is_size, G_is_size, b_is_size, k_is_size⟩ := ok_is_size (P := P) (w := w) (base := base) KX G c xs
  have nd := sc_Wall_init.nd
  refine ⟨fd, F.ok sc_Wall_init (len_Wall_init (K := K)) (fun cdv A outer s H vs Q E hr hsp => ⟨t_Wall_init K E, id ?_, pure_Wall_init (tW c) vs H Q E hsp⟩), F.bindsN (fun _ _ _ _ _ _ us hl => match us, hl with | [_, _], _ => rfl), F.kp⟩
  exact pss_cons (ps_if (PW.pt (pw_or (pt_cmpR op_lt (pe_callB call_len_seq (by rfl) (f_len KX G c) (by decide +kernel) (pa_cons (pv 1) pa_nil)) (pe_int) (nomark _)) (pw_or1 (pt_cmpR op_gt (pe_callB call_len_seq (by rfl) (f_len KX G c) (by decide +kernel) (pa_cons (pv 1) pa_nil)) (pe_glob rfl (c_MOST_BOXES KX G c).choose_spec ⟨_, rfl⟩) (nomark _)))))
        (pss_one (ps_raise rfl (takes_of rfl rfl rfl rfl) (pmk_own PySem.F.excBase_ValueError (x_NoWall c).1 (g_NoWall KX G c) (x_NoWall c).2.1 (raises_own (x_NoWall c).2.2.1 (x_NoWall c).2.2.2) (by exact rfl))))
        (pss_nil))
      (pss_cons (ps_forP (passes_of rfl) rfl (pi_list (pv 1)) (pg_name (i := 2) nd rfl (Or.inl rfl))
        (pss_one (ps_if (pt_not (pt_val (pe_call G_is_size (hr.mono (by decide : 1 ≤ 1)) rfl (g_is_size KX G c) k_is_size b_is_size .nil pass0 (pa_cons (pv 2) pa_nil))))
        (pss_one (ps_raise rfl (takes_of rfl rfl rfl rfl) (pmk_own PySem.F.excBase_ValueError (x_NoWall c).1 (g_NoWall KX G c) (x_NoWall c).2.1 (raises_own (x_NoWall c).2.2.1 (x_NoWall c).2.2.2) (by exact rfl))))
        (pss_nil))))
      (pss_cons (ps_fld (pv 0) (pe_callTy call_list_of (by rfl) (f_list KX G c) (by decide +kernel) (pa_cons (pv 1) pa_nil)) rfl)
      (pss_cons (ps_fld (pv 0) (pe_lc (own := [("size", 2)]) (g := gName 2) rfl nd (pi_list (pv 1)) (blkOk_by (N := ["self", "sizes", "size"]) (sc := defScope s_Wall_init) (by decide +kernel)) (fun _ _ _ _ _ => pg_name (i := 2) nd rfl (Or.inl rfl)) (fun _ _ _ _ _ => pts_nil) (fun _ _ _ _ _ => pe_non)) rfl)
      (pss_cons (ps_fld (pv 0) (pe_lst pa_nil) rfl)
      (pss_one (ps_fld (pv 0) (pe_int) rfl))))))
theorem sc_Wall_day : FnScope ["self"] ["self"] (defScope s_Wall_day) := ⟨rfl, rfl, rfl, by decide +kernel, rfl, by decide +kernel, by decide +kernel⟩
theorem ok_Wall_day {P : Program} {w : World} {base : Heap} {h : Heap} {mg : Str → Option Value} {K : PySem.W.Frag} (KX : K.In h) (G : h.Ns mainGlobals mg) (c : He.SaysD fa fn K) (xs : XS K xl) : OkF P w K mg base CX0 1 (He.fAd K d_Wall_day.at_) ["self"] (sp_Wall_day K) := by
  obtain ⟨fd, F⟩ := c.def_ 4 (d := d_Wall_day) rfl
  have nd := sc_Wall_day.nd
  refine ⟨fd, F.ok sc_Wall_day (len_Wall_day (K := K)) (fun cdv A outer s H vs Q E hr hsp => ⟨t_Wall_day K E, PSs.nox ?_, pure_Wall_day (tW c) vs H Q E hsp⟩), F.bindsN (fun _ _ _ _ _ _ us hl => match us, hl with | [_], _ => rfl), F.kp⟩
  exact pss_one (ps_ret (pe_fld (pv 0) rfl))
theorem sc_law_whole : FnScope ["found"] ["found"] (defScope s_law_whole) := ⟨rfl, rfl, rfl, by decide +kernel, rfl, by decide +kernel, by decide +kernel⟩
theorem ok_law_whole {P : Program} {w : World} {base : Heap} {h : Heap} {mg : Str → Option Value} {K : PySem.W.Frag} (KX : K.In h) (G : h.Ns mainGlobals mg) (c : He.SaysD fa fn K) (xs : XS K xl) : OkF P w K mg base CX0 1 (He.fAd K d_law_whole.at_) ["found"] (sp_law_whole K) := by
  obtain ⟨fd, F⟩ := c.def_ 5 (d := d_law_whole) rfl
  have nd := sc_law_whole.nd
  refine ⟨fd, F.ok sc_law_whole (len_law_whole (K := K)) (fun cdv A outer s H vs Q E hr hsp => ⟨t_law_whole K E, PSs.nox ?_, pure_law_whole vs H Q E hsp⟩), F.bindsN (fun _ _ _ _ _ _ us hl => match us, hl with | [_], _ => rfl), F.kp⟩
  exact pss_one (ps_ret (pe_and (pe_callB call_isi (by rfl) (f_isinstance KX G c) (by decide +kernel) (pa_cons (pv 0) (pa_cons (pe_bltn (by rfl) (f_int KX G c) (by decide +kernel) rfl) pa_nil))) (pe_one (pe_not (pe_callB call_isi (by rfl) (f_isinstance KX G c) (by decide +kernel) (pa_cons (pv 0) (pa_cons (pe_bltn (by rfl) (f_bool KX G c) (by decide +kernel) rfl) pa_nil)))))))
theorem sc_law_row : FnScope ["found", "due", "k"] ["found", "due"] (defScope s_law_row) := ⟨rfl, rfl, rfl, by decide +kernel, rfl, by decide +kernel, by decide +kernel⟩
theorem ok_law_row {P : Program} {w : World} {base : Heap} {h : Heap} {mg : Str → Option Value} {K : PySem.W.Frag} (KX : K.In h) (G : h.Ns mainGlobals mg) (c : He.SaysD fa fn K) (xs : XS K xl) : OkF P w K mg base CX0 2 (He.fAd K d_law_row.at_) ["found", "due"] (sp_law_row K) := by
  obtain ⟨fd, F⟩ := c.def_ 6 (d := d_law_row) rfl
  obtain ⟨fd_law_whole, G_law_whole, b_law_whole, k_law_whole⟩ := ok_law_whole (P := P) (w := w) (base := base) KX G c xs
  have nd := sc_law_row.nd
  refine ⟨fd, F.ok sc_law_row (len_law_row (K := K)) (fun cdv A outer s H vs Q E hr hsp => ⟨t_law_row K E, PSs.nox ?_, pure_law_row vs H Q E hsp⟩), F.bindsN (fun _ _ _ _ _ _ us hl => match us, hl with | [_, _], _ => rfl), F.kp⟩
  exact pss_cons (ps_if (PW.pt (pw_or (pt_not (pt_val (pe_callB call_isi (by rfl) (f_isinstance KX G c) (by decide +kernel) (pa_cons (pv 0) (pa_cons (pe_bltn (by rfl) (f_list KX G c) (by decide +kernel) rfl) pa_nil))))) (pw_or1 (pt_cmpR op_ne (pe_callB call_len_seq (by rfl) (f_len KX G c) (by decide +kernel) (pa_cons (pv 0) pa_nil)) (pe_callB call_len_seq (by rfl) (f_len KX G c) (by decide +kernel) (pa_cons (pv 1) pa_nil)) (nomark _)))))
        (pss_one (ps_ret (pe_bl)))
        (pss_nil))
      (pss_cons (ps_forP (PassesOwn.never) rfl (pi_range1 rfl (f_range KX G c) (pa_cons (pe_callB call_len_seq (by rfl) (f_len KX G c) (by decide +kernel) (pa_cons (pv 1) pa_nil)) pa_nil)) (pg_name (i := 2) nd rfl (Or.inl rfl))
        (pss_one (ps_if (PW.pt (pw_or (pt_not (pt_val (pe_call G_law_whole (hr.mono (by decide : 1 ≤ 1)) rfl (g_law_whole KX G c) k_law_whole b_law_whole .nil pass0 (pa_cons (pe_ix ix_list (pv 0) (pv 2) (fun _ _ => rfl)) pa_nil)))) (pw_or1 (pt_cmpR op_ne (pe_ix ix_list (pv 0) (pv 2) (fun _ _ => rfl)) (pe_ix ix_list (pv 1) (pv 2) (fun _ _ => rfl)) (nomark _)))))
        (pss_one (ps_ret (pe_bl)))
        (pss_nil))))
      (pss_one (ps_ret (pe_bl))))
theorem sc_law_held : FnScope ["found", "due", "k"] ["found", "due"] (defScope s_law_held) := ⟨rfl, rfl, rfl, by decide +kernel, rfl, by decide +kernel, by decide +kernel⟩
theorem ok_law_held {P : Program} {w : World} {base : Heap} {h : Heap} {mg : Str → Option Value} {K : PySem.W.Frag} (KX : K.In h) (G : h.Ns mainGlobals mg) (c : He.SaysD fa fn K) (xs : XS K xl) : OkF P w K mg base CX0 2 (He.fAd K d_law_held.at_) ["found", "due"] (sp_law_held K) := by
  obtain ⟨fd, F⟩ := c.def_ 7 (d := d_law_held) rfl
  obtain ⟨fd_law_whole, G_law_whole, b_law_whole, k_law_whole⟩ := ok_law_whole (P := P) (w := w) (base := base) KX G c xs
  have nd := sc_law_held.nd
  refine ⟨fd, F.ok sc_law_held (len_law_held (K := K)) (fun cdv A outer s H vs Q E hr hsp => ⟨t_law_held K E, PSs.nox ?_, pure_law_held vs H Q E hsp⟩), F.bindsN (fun _ _ _ _ _ _ us hl => match us, hl with | [_, _], _ => rfl), F.kp⟩
  exact pss_cons (ps_if (PW.pt (pw_or (pt_not (pt_val (pe_callB call_isi (by rfl) (f_isinstance KX G c) (by decide +kernel) (pa_cons (pv 0) (pa_cons (pe_bltn (by rfl) (f_list KX G c) (by decide +kernel) rfl) pa_nil))))) (pw_or1 (pt_cmpR op_ne (pe_callB call_len_seq (by rfl) (f_len KX G c) (by decide +kernel) (pa_cons (pv 0) pa_nil)) (pe_callB call_len_seq (by rfl) (f_len KX G c) (by decide +kernel) (pa_cons (pv 1) pa_nil)) (nomark _)))))
        (pss_one (ps_ret (pe_bl)))
        (pss_nil))
      (pss_cons (ps_forP (PassesOwn.never) rfl (pi_range1 rfl (f_range KX G c) (pa_cons (pe_callB call_len_seq (by rfl) (f_len KX G c) (by decide +kernel) (pa_cons (pv 1) pa_nil)) pa_nil)) (pg_name (i := 2) nd rfl (Or.inl rfl))
        (pss_one (ps_if (pt_cmpR op_isN (pe_ix ix_list (pv 1) (pv 2) (fun _ _ => rfl)) (pe_non) (nomark _))
        (pss_one (ps_if (pt_cmpR op_notN (pe_ix ix_list (pv 0) (pv 2) (fun _ _ => rfl)) (pe_non) (nomark _))
        (pss_one (ps_ret (pe_bl)))
        (pss_nil)))
        (pss_one (ps_if (PW.pt (pw_or (pt_not (pt_val (pe_call G_law_whole (hr.mono (by decide : 1 ≤ 1)) rfl (g_law_whole KX G c) k_law_whole b_law_whole .nil pass0 (pa_cons (pe_ix ix_list (pv 0) (pv 2) (fun _ _ => rfl)) pa_nil)))) (pw_or1 (pt_cmpR op_ne (pe_ix ix_list (pv 0) (pv 2) (fun _ _ => rfl)) (pe_ix ix_list (pv 1) (pv 2) (fun _ _ => rfl)) (nomark _)))))
        (pss_one (ps_ret (pe_bl)))
        (pss_nil))))))
      (pss_one (ps_ret (pe_bl))))
theorem sc_Wall_sizes : FnScope ["self"] ["self"] (defScope s_Wall_sizes) := ⟨rfl, rfl, rfl, by decide +kernel, rfl, by decide +kernel, by decide +kernel⟩
theorem ok_Wall_sizes {P : Program} {w : World} {base : Heap} {h : Heap} {mg : Str → Option Value} {K : PySem.W.Frag} (KX : K.In h) (G : h.Ns mainGlobals mg) (c : He.SaysD fa fn K) (xs : XS K xl) : OkF P w K mg base CX0 1 (He.fAd K d_Wall_sizes.at_) ["self"] (sp_Wall_sizes K) := by
  obtain ⟨fd, F⟩ := c.def_ 8 (d := d_Wall_sizes) rfl
  have nd := sc_Wall_sizes.nd
  refine ⟨fd, F.ok sc_Wall_sizes (len_Wall_sizes (K := K)) (fun cdv A outer s H vs Q E hr hsp => ⟨t_Wall_sizes K E, PSs.nox ?_, pure_Wall_sizes (tW c) vs H Q E hsp⟩), F.bindsN (fun _ _ _ _ _ _ us hl => match us, hl with | [_], _ => rfl), F.kp⟩
  exact pss_one (ps_ret (pe_callTy call_list_of (by rfl) (f_list KX G c) (by decide +kernel) (pa_cons (pe_fld (pv 0) rfl) pa_nil)))
theorem sc_Wall_held : FnScope ["self"] ["self"] (defScope s_Wall_held) := ⟨rfl, rfl, rfl, by decide +kernel, rfl, by decide +kernel, by decide +kernel⟩
theorem ok_Wall_held {P : Program} {w : World} {base : Heap} {h : Heap} {mg : Str → Option Value} {K : PySem.W.Frag} (KX : K.In h) (G : h.Ns mainGlobals mg) (c : He.SaysD fa fn K) (xs : XS K xl) : OkF P w K mg base CX0 1 (He.fAd K d_Wall_held.at_) ["self"] (sp_Wall_held K) := by
  obtain ⟨fd, F⟩ := c.def_ 9 (d := d_Wall_held) rfl
  have nd := sc_Wall_held.nd
  refine ⟨fd, F.ok sc_Wall_held (len_Wall_held (K := K)) (fun cdv A outer s H vs Q E hr hsp => ⟨t_Wall_held K E, PSs.nox ?_, pure_Wall_held (tW c) vs H Q E hsp⟩), F.bindsN (fun _ _ _ _ _ _ us hl => match us, hl with | [_], _ => rfl), F.kp⟩
  exact pss_one (ps_ret (pe_callTy call_list_of (by rfl) (f_list KX G c) (by decide +kernel) (pa_cons (pe_fld (pv 0) rfl) pa_nil)))
theorem sc_Wall_free : FnScope ["self", "box"] ["self"] (defScope s_Wall_free) := ⟨rfl, rfl, rfl, by decide +kernel, rfl, by decide +kernel, by decide +kernel⟩
theorem ok_Wall_free {P : Program} {w : World} {base : Heap} {h : Heap} {mg : Str → Option Value} {K : PySem.W.Frag} (KX : K.In h) (G : h.Ns mainGlobals mg) (c : He.SaysD fa fn K) (xs : XS K xl) : OkF P w K mg base CX0 1 (He.fAd K d_Wall_free.at_) ["self"] (sp_Wall_free K) := by
  obtain ⟨fd, F⟩ := c.def_ 10 (d := d_Wall_free) rfl
  have nd := sc_Wall_free.nd
  refine ⟨fd, F.ok sc_Wall_free (len_Wall_free (K := K)) (fun cdv A outer s H vs Q E hr hsp => ⟨t_Wall_free K E, PSs.nox ?_, pure_Wall_free (tW c) vs H Q E hsp⟩), F.bindsN (fun _ _ _ _ _ _ us hl => match us, hl with | [_], _ => rfl), F.kp⟩
  exact pss_one (ps_ret (pe_lc (own := [("box", 1)]) (g := gName 1) rfl nd (pi_range1 rfl (f_range KX G c) (pa_cons (pe_callB call_len_seq (by rfl) (f_len KX G c) (by decide +kernel) (pa_cons (pe_fld (pv 0) rfl) pa_nil)) pa_nil)) (blkOk_by (N := ["self", "box"]) (sc := defScope s_Wall_free) (by decide +kernel)) (fun _ _ _ _ _ => pg_name (i := 1) nd rfl (Or.inl rfl)) (fun _ _ _ _ _ => pts_one (pt_cmpR op_isN (pe_ix ix_list (pe_fld (pv 0) rfl) (pv 1) (fun _ _ => rfl)) (pe_non) (nomark _))) (fun _ _ _ _ _ => pv 1)))
theorem sc_law_stands : FnScope ["side", "sizes", "held", "day", "free", "told", "box"] ["side", "sizes", "held", "day"] (defScope s_law_stands) := ⟨rfl, rfl, rfl, by decide +kernel, rfl, by decide +kernel, by decide +kernel⟩
theorem ok_law_stands {P : Program} {w : World} {base : Heap} {h : Heap} {mg : Str → Option Value} {K : PySem.W.Frag} (KX : K.In h) (G : h.Ns mainGlobals mg) (c : He.SaysD fa fn K) (xs : XS K xl) : OkF P w K mg base CX0 3 (He.fAd K d_law_stands.at_) ["side", "sizes", "held", "day"] (sp_law_stands K) := by
  obtain ⟨fd, F⟩ := c.def_ 11 (d := d_law_stands) rfl
  obtain ⟨fd_law_whole, G_law_whole, b_law_whole, k_law_whole⟩ := ok_law_whole (P := P) (w := w) (base := base) KX G c xs
  obtain ⟨fd_Wall_day, G_Wall_day, b_Wall_day, k_Wall_day⟩ := ok_Wall_day (P := P) (w := w) (base := base) KX G c xs
  obtain ⟨fd_law_row, G_law_row, b_law_row, k_law_row⟩ := ok_law_row (P := P) (w := w) (base := base) KX G c xs
  obtain ⟨fd_Wall_free, G_Wall_free, b_Wall_free, k_Wall_free⟩ := ok_Wall_free (P := P) (w := w) (base := base) KX G c xs
  obtain ⟨fd_law_held, G_law_held, b_law_held, k_law_held⟩ := ok_law_held (P := P) (w := w) (base := base) KX G c xs
  obtain ⟨fd_Wall_held, G_Wall_held, b_Wall_held, k_Wall_held⟩ := ok_Wall_held (P := P) (w := w) (base := base) KX G c xs
  obtain ⟨fd_Wall_sizes, G_Wall_sizes, b_Wall_sizes, k_Wall_sizes⟩ := ok_Wall_sizes (P := P) (w := w) (base := base) KX G c xs
  have nd := sc_law_stands.nd
  refine ⟨fd, F.ok sc_law_stands (len_law_stands (K := K)) (fun cdv A outer s H vs Q E hr hsp => ⟨t_law_stands K E, PSs.nox ?_, pure_law_stands vs H Q E hsp⟩), F.bindsN (fun _ _ _ _ _ _ us hl => match us, hl with | [_, _, _, _], _ => rfl), F.kp⟩
  exact pss_cons (ps_setLc (i := 4) (own := [("box", 6)]) (g := gName 6) rfl nd rfl rfl (sw_true rfl rfl rfl (by decide +kernel)) (pi_range1 rfl (f_range KX G c) (pa_cons (pe_callB call_len_seq (by rfl) (f_len KX G c) (by decide +kernel) (pa_cons (pv 1) pa_nil)) pa_nil)) (blkOk_by (N := ["side", "sizes", "held", "day", "free", "told", "box"]) (sc := defScope s_law_stands) (by decide +kernel)) (fun _ _ _ _ _ => pg_name (i := 6) nd rfl (Or.inl rfl)) (fun _ _ _ _ _ => pts_one (pt_cmpR op_isN (pe_ix ix_list (pv 2) (pv 6) (fun _ _ => rfl)) (pe_non) (nomark _))) (fun _ _ _ _ _ => pv 6))
      (pss_cons (ps_if (PW.pt (pw_or (pt_not (pt_val (pe_call G_law_row (hr.mono (by decide : 2 ≤ 2)) rfl (g_law_row KX G c) k_law_row b_law_row .nil pass0 (pa_cons (pe_meth0 (pv 0) (clW c) (m_Wall_sizes c) G_Wall_sizes (hr.mono (by decide : 1 ≤ 2)) b_Wall_sizes .nil pass0 ) (pa_cons (pv 1) pa_nil))))) (pw_or (pt_not (pt_val (pe_call G_law_held (hr.mono (by decide : 2 ≤ 2)) rfl (g_law_held KX G c) k_law_held b_law_held .nil pass0 (pa_cons (pe_meth0 (pv 0) (clW c) (m_Wall_held c) G_Wall_held (hr.mono (by decide : 1 ≤ 2)) b_Wall_held .nil pass0 ) (pa_cons (pv 2) pa_nil))))) (pw_or1 (pt_not (pt_val (pe_call G_law_row (hr.mono (by decide : 2 ≤ 2)) rfl (g_law_row KX G c) k_law_row b_law_row .nil pass0 (pa_cons (pe_meth0 (pv 0) (clW c) (m_Wall_free c) G_Wall_free (hr.mono (by decide : 1 ≤ 2)) b_Wall_free .nil pass0 ) (pa_cons (pv 4) pa_nil)))))))))
        (pss_one (ps_ret (pe_bl)))
        (pss_nil))
      (pss_cons (ps_set (i := 5) nd rfl (Or.inl rfl) (pe_meth0 (pv 0) (clW c) (m_Wall_day c) G_Wall_day (hr.mono (by decide : 1 ≤ 2)) b_Wall_day .nil pass0 ))
      (pss_one (ps_ret (pe_and (pe_call G_law_whole (hr.mono (by decide : 1 ≤ 2)) rfl (g_law_whole KX G c) k_law_whole b_law_whole .nil pass0 (pa_cons (pv 5) pa_nil)) (pe_one (pe_cmpR op_eq (pv 5) (pv 3) (nomark _))))))))
theorem sc_law_box_for : FnScope ["sizes", "held", "size", "some", "box"] ["sizes", "held", "size"] (defScope s_law_box_for) := ⟨rfl, rfl, rfl, by decide +kernel, rfl, by decide +kernel, by decide +kernel⟩
theorem ok_law_box_for {P : Program} {w : World} {base : Heap} {h : Heap} {mg : Str → Option Value} {K : PySem.W.Frag} (KX : K.In h) (G : h.Ns mainGlobals mg) (c : He.SaysD fa fn K) (xs : XS K xl) : OkF P w K mg base CX0 1 (He.fAd K d_law_box_for.at_) ["sizes", "held", "size"] (sp_law_box_for K) := by
  obtain ⟨fd, F⟩ := c.def_ 12 (d := d_law_box_for) rfl
  have nd := sc_law_box_for.nd
  refine ⟨fd, F.ok sc_law_box_for (len_law_box_for (K := K)) (fun cdv A outer s H vs Q E hr hsp => ⟨t_law_box_for K E, PSs.nox ?_, pure_law_box_for vs H Q E hsp⟩), F.bindsN (fun _ _ _ _ _ _ us hl => match us, hl with | [_, _, _], _ => rfl), F.kp⟩
  exact pss_cons (ps_set (i := 3) nd rfl (Or.inl rfl) (pe_callB cr_sortPO (by rfl) (f_sorted KX G c) (by decide +kernel) (pa_cons (pe_lc (own := [("box", 4)]) (g := gName 4) rfl nd (pi_range1 rfl (f_range KX G c) (pa_cons (pe_callB call_len_seq (by rfl) (f_len KX G c) (by decide +kernel) (pa_cons (pv 0) pa_nil)) pa_nil)) (blkOk_by (N := ["sizes", "held", "size", "some", "box"]) (sc := defScope s_law_box_for) (by decide +kernel)) (fun _ _ _ _ _ => pg_name (i := 4) nd rfl (Or.inl rfl)) (fun _ _ _ _ _ => pts_one (PW.pt (pw_and (pt_cmpR op_isN (pe_ix ix_list (pv 1) (pv 4) (fun _ _ => rfl)) (pe_non) (nomark _)) (pw_and1 (pt_cmpR op_ge (pe_ix ix_list (pv 0) (pv 4) (fun _ _ => rfl)) (pv 2) (nomark _)))))) (fun _ _ _ _ _ => pe_tup (pa_cons (pe_ix ix_list (pv 0) (pv 4) (fun _ _ => rfl)) (pa_cons (pv 4) pa_nil)))) pa_nil)))
      (pss_cons (ps_if (pt_cmpR op_eq (pe_callB call_len_seq (by rfl) (f_len KX G c) (by decide +kernel) (pa_cons (pv 3) pa_nil)) (pe_int) (nomark _))
        (pss_one (ps_ret (pe_non)))
        (pss_nil))
      (pss_one (ps_ret (pe_ix ix_tup (pe_ix ix_list (pv 3) (pe_int) (fun _ _ => rfl)) (pe_int) (fun _ _ => rfl)))))
theorem sc_law_due_k02 : FnScope ["sizes", "state", "deed", "held", "parcels", "back", "box", "p"] ["sizes", "state", "deed"] (defScope s_law_due_k02) := ⟨rfl, rfl, rfl, by decide +kernel, rfl, by decide +kernel, by decide +kernel⟩
theorem ok_law_due_k02 {P : Program} {w : World} {base : Heap} {h : Heap} {mg : Str → Option Value} {K : PySem.W.Frag} (KX : K.In h) (G : h.Ns mainGlobals mg) (c : He.SaysD fa fn K) (xs : XS K xl) : OkF P w K mg base CX0 2 (He.fAd K d_law_due_k02.at_) ["sizes", "state", "deed"] (sp_law_due_k02 K) := by
  obtain ⟨fd, F⟩ := c.def_ 13 (d := d_law_due_k02) rfl
  obtain ⟨fd_law_box_for, G_law_box_for, b_law_box_for, k_law_box_for⟩ := ok_law_box_for (P := P) (w := w) (base := base) KX G c xs
  have nd := sc_law_due_k02.nd
  refine ⟨fd, F.ok sc_law_due_k02 (len_law_due_k02 (K := K)) (fun cdv A outer s H vs Q E hr hsp => ⟨t_law_due_k02 K E, PSs.nox ?_, pure_law_due_k02 vs H Q E hsp⟩), F.bindsN (fun _ _ _ _ _ _ us hl => match us, hl with | [_, _, _], _ => rfl), F.kp⟩
  exact pss_cons (ps_set (i := 3) nd rfl (Or.inl rfl) (pe_ix ix_list (pv 1) (pe_int) (fun _ _ => rfl)))
      (pss_cons (ps_set (i := 4) nd rfl (Or.inr rfl) (pe_ix ix_list (pv 1) (pe_int) (fun _ _ => rfl)))
      (pss_cons (ps_if (pt_cmpR op_eq (pe_ix ix_tup (pv 2) (pe_int) (fun _ _ => rfl)) (pe_str) (nomark _))
        (pss_cons (ps_asg (pe_op op_add (pe_ix ix_list (pv 1) (pe_int) (fun _ _ => rfl)) (pe_int)) (pg_sub (pv 1) (pe_int) set_list))
      (pss_cons (ps_setLc (i := 5) (own := [("p", 7)]) (g := gName 7) rfl nd rfl rfl (sw_true rfl rfl rfl (by decide +kernel)) (pi_list (pv 3)) (blkOk_by (N := ["sizes", "state", "deed", "held", "parcels", "back", "box", "p"]) (sc := defScope s_law_due_k02) (by decide +kernel)) (fun _ _ _ _ _ => pg_name (i := 7) nd rfl (Or.inl rfl)) (fun _ _ _ _ _ => pts_one (PW.pt (pw_and (pt_cmpR op_notN (pv 7) (pe_non) (nomark _)) (pw_and1 (pt_cmpR op_le (pe_ix ix_tup (pe_ix ix_list (pv 4) (pv 7) (fun _ _ => rfl)) (pe_int) (fun _ _ => rfl)) (pe_ix ix_list (pv 1) (pe_int) (fun _ _ => rfl)) (nomark _)))))) (fun _ _ _ _ _ => pv 7))
      (pss_cons (ps_forP (PassesOwn.never) rfl (pi_range1 rfl (f_range KX G c) (pa_cons (pe_callB call_len_seq (by rfl) (f_len KX G c) (by decide +kernel) (pa_cons (pv 3) pa_nil)) pa_nil)) (pg_name (i := 6) nd rfl (Or.inl rfl))
        (pss_one (ps_if (pt_cmpR op_in_seq (pe_ix ix_list (pv 3) (pv 6) (fun _ _ => rfl)) (pv 5) (by rfl))
        (pss_one (ps_asg (pe_non) (pg_sub (pv 3) (pv 6) set_list)))
        (pss_nil))))
      (pss_one (ps_ret (pe_callB cr_sortedI (by rfl) (f_sorted KX G c) (by decide +kernel) (pa_cons (pv 5) pa_nil)))))))
        (pss_nil))
      (pss_cons (ps_if (pt_cmpR op_eq (pe_ix ix_tup (pv 2) (pe_int) (fun _ _ => rfl)) (pe_str) (nomark _))
        (pss_cons (ps_if (pt_cmpR op_notInN (pe_ix ix_tup (pv 2) (pe_int) (fun _ _ => rfl)) (pv 3) (by rfl))
        (pss_one (ps_ret (pe_str)))
        (pss_nil))
      (pss_cons (ps_set (i := 6) nd rfl (Or.inl rfl) (pe_bm PySem.F.plainAttrs_list PySem.F.slot_list_index PySem.F.type_list_index mt_index (pv 3) (pa_cons (pe_ix ix_tup (pv 2) (pe_int) (fun _ _ => rfl)) pa_nil)))
      (pss_cons (ps_asg (pe_non) (pg_sub (pv 3) (pv 6) set_list))
      (pss_one (ps_ret (pv 6))))))
        (pss_nil))
      (pss_cons (ps_if (PW.pt (pw_or (pt_cmpR op_lt (pe_ix ix_tup (pv 2) (pe_int) (fun _ _ => rfl)) (pe_int) (nomark _)) (pw_or1 (pt_cmpR op_gt (pe_ix ix_tup (pv 2) (pe_int) (fun _ _ => rfl)) (pe_int) (nomark _)))))
        (pss_one (ps_ret (pe_str)))
        (pss_nil))
      (pss_cons (ps_if (PW.pt (pw_or (pt_cmpR op_lt (pe_ix ix_tup (pv 2) (pe_int) (fun _ _ => rfl)) (pe_int) (nomark _)) (pw_or1 (pt_cmpR op_gt (pe_ix ix_tup (pv 2) (pe_int) (fun _ _ => rfl)) (pe_int) (nomark _)))))
        (pss_one (ps_ret (pe_str)))
        (pss_nil))
      (pss_cons (ps_set (i := 6) nd rfl (Or.inl rfl) (pe_call G_law_box_for (hr.mono (by decide : 1 ≤ 1)) rfl (g_law_box_for KX G c) k_law_box_for b_law_box_for .nil pass0 (pa_cons (pv 0) (pa_cons (pv 3) (pa_cons (pe_ix ix_tup (pv 2) (pe_int) (fun _ _ => rfl)) pa_nil)))))
      (pss_cons (ps_if (pt_cmpR op_isN (pv 6) (pe_non) (nomark _))
        (pss_one (ps_ret (pe_str)))
        (pss_nil))
      (pss_cons (ps_asg (pe_callB call_len_seq (by rfl) (f_len KX G c) (by decide +kernel) (pa_cons (pv 4) pa_nil)) (pg_sub (pv 3) (pv 6) set_list))
      (pss_cons (ps_expr (pe_bm PySem.F.plainAttrs_list PySem.F.slot_list_append PySem.F.type_list_append mt_append (pv 4) (pa_cons (pe_tup (pa_cons (pe_ix ix_tup (pv 2) (pe_int) (fun _ _ => rfl)) (pa_cons (pe_op op_add (pe_ix ix_list (pv 1) (pe_int) (fun _ _ => rfl)) (pe_ix ix_tup (pv 2) (pe_int) (fun _ _ => rfl))) pa_nil))) pa_nil)))
      (pss_one (ps_ret (pe_ix ix_list (pv 3) (pv 6) (fun _ _ => rfl)))))))))))))
theorem sc_least_box : FnScope ["sizes", "free", "size", "found", "box"] ["sizes", "free", "size"] (defScope s_least_box) := ⟨rfl, rfl, rfl, by decide +kernel, rfl, by decide +kernel, by decide +kernel⟩
theorem ok_least_box {P : Program} {w : World} {base : Heap} {h : Heap} {mg : Str → Option Value} {K : PySem.W.Frag} (KX : K.In h) (G : h.Ns mainGlobals mg) (c : He.SaysD fa fn K) (xs : XS K xl) : OkF P w K mg base CX0 1 (He.fAd K d_least_box.at_) ["sizes", "free", "size"] (sp_least_box K) := by
  obtain ⟨fd, F⟩ := c.def_ 14 (d := d_least_box) rfl
  have nd := sc_least_box.nd
  refine ⟨fd, F.ok sc_least_box (len_least_box (K := K)) (fun cdv A outer s H vs Q E hr hsp => ⟨t_least_box K E, PSs.nox ?_, pure_least_box vs H Q E hsp⟩), F.bindsN (fun _ _ _ _ _ _ us hl => match us, hl with | [_, _, _], _ => rfl), F.kp⟩
  exact pss_cons (ps_set (i := 3) nd rfl (Or.inl rfl) (pe_non))
      (pss_cons (ps_forP (PassesOwn.never) rfl (pi_list (pv 1)) (pg_name (i := 4) nd rfl (Or.inl rfl))
        (pss_one (ps_if (PW.pt (pw_and (pt_cmpR op_ge (pe_ix ix_list (pv 0) (pv 4) (fun _ _ => rfl)) (pv 2) (nomark _)) (pw_and1 (PW.pt (pw_or (pt_cmpR op_isN (pv 3) (pe_non) (nomark _)) (pw_or1 (pt_cmpR op_lt (pe_ix ix_list (pv 0) (pv 4) (fun _ _ => rfl)) (pe_ix ix_list (pv 0) (pv 3) (fun _ _ => rfl)) (nomark _))))))))
        (pss_one (ps_set (i := 3) nd rfl (Or.inl rfl) (pv 4)))
        (pss_nil))))
      (pss_one (ps_ret (pv 3))))
theorem sc_Wall_come : FnScope ["self", "size", "nights", "box"] ["self", "size", "nights"] (defScope s_Wall_come) := ⟨rfl, rfl, rfl, by decide +kernel, rfl, by decide +kernel, by decide +kernel⟩
theorem ok_Wall_come {P : Program} {w : World} {base : Heap} {h : Heap} {mg : Str → Option Value} {K : PySem.W.Frag} (KX : K.In h) (G : h.Ns mainGlobals mg) (c : He.SaysD fa fn K) (xs : XS K xl) : OkF P w K mg base (L2.CX P w) 2 (He.fAd K d_Wall_come.at_) ["self", "size", "nights"] (sp_Wall_come K) := by
  obtain ⟨fd, F⟩ := c.def_ 15 (d := d_Wall_come) rfl
  obtain ⟨fd_least_box, G_least_box, b_least_box, k_least_box⟩ := ok_least_box (P := P) (w := w) (base := base) KX G c xs
  obtain ⟨fd_Wall_free, G_Wall_free, b_Wall_free, k_Wall_free⟩ := ok_Wall_free (P := P) (w := w) (base := base) KX G c xs
  obtain ⟨fd_is_size, G_is_size, b_is_size, k_is_size⟩ := ok_is_size (P := P) (w := w) (base := base) KX G c xs
  have nd := sc_Wall_come.nd
  refine ⟨fd, F.ok sc_Wall_come (len_Wall_come (K := K)) (fun cdv A outer s H vs Q E hr hsp => ⟨t_Wall_come K E, id ?_, pure_Wall_come (tW c) vs H Q E hsp⟩), F.bindsN (fun _ _ _ _ _ _ us hl => match us, hl with | [_, _, _], _ => rfl), F.kp⟩
  exact pss_cons (ps_if (pt_not (pt_val (pe_call G_is_size (hr.mono (by decide : 1 ≤ 1)) rfl (g_is_size KX G c) k_is_size b_is_size .nil pass0 (pa_cons (pv 1) pa_nil))))
        (pss_one (ps_raise rfl (takes_of rfl rfl rfl rfl) (pmk_own PySem.F.excBase_ValueError (x_NoSize c).1 (g_NoSize KX G c) (x_NoSize c).2.1 (raises_own (x_NoSize c).2.2.1 (x_NoSize c).2.2.2) (by exact rfl))))
        (pss_nil))
      (pss_cons (ps_if (PW.pt (pw_or (pt_cmpR op_lt (pv 2) (pe_int) (nomark _)) (pw_or1 (pt_cmpR op_gt (pv 2) (pe_glob rfl (c_MOST_SIZE KX G c).choose_spec ⟨_, rfl⟩) (nomark _)))))
        (pss_one (ps_raise rfl (takes_of rfl rfl rfl rfl) (pmk_own PySem.F.excBase_ValueError (x_NoNights c).1 (g_NoNights KX G c) (x_NoNights c).2.1 (raises_own (x_NoNights c).2.2.1 (x_NoNights c).2.2.2) (by exact rfl))))
        (pss_nil))
      (pss_cons (ps_set (i := 3) nd rfl (Or.inl rfl) (pe_call G_least_box (hr.mono (by decide : 1 ≤ 1)) rfl (g_least_box KX G c) k_least_box b_least_box .nil pass0 (pa_cons (pe_fld (pv 0) rfl) (pa_cons (pe_meth0 (pv 0) (clW c) (m_Wall_free c) G_Wall_free (hr.mono (by decide : 1 ≤ 1)) b_Wall_free .nil pass0 ) (pa_cons (pv 1) pa_nil)))))
      (pss_cons (ps_if (pt_cmpR op_isN (pv 3) (pe_non) (nomark _))
        (pss_one (ps_raise rfl (takes_of rfl rfl rfl rfl) (pmk_own PySem.F.excBase_ValueError (x_NoBox c).1 (g_NoBox KX G c) (x_NoBox c).2.1 (raises_own (x_NoBox c).2.2.1 (x_NoBox c).2.2.2) (by exact rfl))))
        (pss_nil))
      (pss_cons (ps_expr (pe_bm PySem.F.plainAttrs_list PySem.F.slot_list_append PySem.F.type_list_append mt_append (pe_fld (pv 0) rfl) (pa_cons (pe_tup (pa_cons (pv 1) (pa_cons (pe_op op_add (pe_fld (pv 0) rfl) (pv 2)) pa_nil))) pa_nil)))
      (pss_cons (ps_asg (pe_op op_sub (pe_callB call_len_seq (by rfl) (f_len KX G c) (by decide +kernel) (pa_cons (pe_fld (pv 0) rfl) pa_nil)) (pe_int)) (pg_sub (pe_fld (pv 0) rfl) (pv 3) set_list))
      (pss_one (ps_ret (pe_op op_sub (pe_callB call_len_seq (by rfl) (f_len KX G c) (by decide +kernel) (pa_cons (pe_fld (pv 0) rfl) pa_nil)) (pe_int)))))))))
theorem sc_law_told_k02 : FnScope ["side", "size", "nights", "found", "e", "marks"] ["side", "size", "nights"] (defScope s_law_told_k02) := ⟨rfl, rfl, rfl, by decide +kernel, rfl, by decide +kernel, by decide +kernel⟩
theorem ok_law_told_k02 {P : Program} {w : World} {base : Heap} {h : Heap} {mg : Str → Option Value} {K : PySem.W.Frag} (KX : K.In h) (G : h.Ns mainGlobals mg) (c : He.SaysD fa fn K) (xs : XS K xl) : OkF P w K mg base CX0 3 (He.fAd K d_law_told_k02.at_) ["side", "size", "nights"] (sp_law_told_k02 K) := by
  obtain ⟨fd, F⟩ := c.def_ 16 (d := d_law_told_k02) rfl
  obtain ⟨fd_Wall_come, G_Wall_come, b_Wall_come, k_Wall_come⟩ := ok_Wall_come (P := P) (w := w) (base := base) KX G c xs
  have nd := sc_law_told_k02.nd
  refine ⟨fd, F.ok sc_law_told_k02 (len_law_told_k02 (K := K)) (fun cdv A outer s H vs Q E hr hsp => ⟨t_law_told_k02 K E, PSs.nox ?_, pure_law_told_k02 xs (by decide +kernel) vs H Q E hsp⟩), F.bindsN (fun _ _ _ _ _ _ us hl => match us, hl with | [_, _, _], _ => rfl), F.kp⟩
  exact pss_cons (ps_try_as (i := 4) (tb := fun W => tAsg (tMethS (He.ga K "Wall") "come" (sp_Wall_come K) (WE W) (tVar 0) (tCons (tVar 1) (tCons (tVar 2) tNil))) (gName 3)) (ts := fun a cls d => tSeq (tAsg (tLst (tCons (tCB (rIsX K cls d a) (tCons (tVar 4) (tCons (tC (.ref (He.ga K "NoSize"))) tNil))) (tCons (tCB (rIsX K cls d a) (tCons (tVar 4) (tCons (tC (.ref (He.ga K "NoNights"))) tNil))) (tCons (tCB (rIsX K cls d a) (tCons (tVar 4) (tCons (tC (.ref (He.ga K "NoBox"))) tNil))) (tCons (tCB (rIsX K cls d a) (tCons (tVar 4) (tCons (tC (.ref (He.ga K "NoWall"))) tNil))) tNil))))) (gName 5))
    (tRet (tTup (tCons (tC (.str "refused")) (tCons (tOp rCat (tVar 5) (tLst (tCons (tCB (rIsX K cls d a) (tCons (tVar 4) (tCons (tC (.ref (He.ga K "NoParcel"))) tNil))) (tCons (tNotV (tCB (rIsX K cls d a) (tCons (tVar 4) (tCons (tC (.ty "ValueError")) tNil)))) tNil)))) tNil))))) (Wout := wNone) rfl rfl nd rfl rfl ⟨rfl, by decide, .inl (g_WallError KX G c)⟩ takes0 (fun W pn xe tk hpo => pss_one (ps_set (i := 3) nd rfl (Or.inl rfl) (pe_methS (pv 0) (clW c) (m_Wall_come c) G_Wall_come (hr.mono (by decide : 2 ≤ 2)) b_Wall_come (fun σ => passAt tk σ) (pa_cons (pv 1) (pa_cons (pv 2) pa_nil))))) (fun a oe cls d pn hz hf => pss_cons (ps_set (i := 5) nd rfl (Or.inl rfl) (pe_lst (pa_cons (pe_callB (call_isX hz hf) (by rfl) (f_isinstance KX G c) (by decide +kernel) (pa_cons (pv 4) (pa_cons (pe_glob rfl (g_NoSize KX G c) rfl) pa_nil))) (pa_cons (pe_callB (call_isX hz hf) (by rfl) (f_isinstance KX G c) (by decide +kernel) (pa_cons (pv 4) (pa_cons (pe_glob rfl (g_NoNights KX G c) rfl) pa_nil))) (pa_cons (pe_callB (call_isX hz hf) (by rfl) (f_isinstance KX G c) (by decide +kernel) (pa_cons (pv 4) (pa_cons (pe_glob rfl (g_NoBox KX G c) rfl) pa_nil))) (pa_cons (pe_callB (call_isX hz hf) (by rfl) (f_isinstance KX G c) (by decide +kernel) (pa_cons (pv 4) (pa_cons (pe_glob rfl (g_NoWall KX G c) rfl) pa_nil))) pa_nil))))))
      (pss_one (ps_ret (pe_tup (pa_cons (pe_str) (pa_cons (pe_op op_cat (pv 5) (pe_lst (pa_cons (pe_callB (call_isX hz hf) (by rfl) (f_isinstance KX G c) (by decide +kernel) (pa_cons (pv 4) (pa_cons (pe_glob rfl (g_NoParcel KX G c) rfl) pa_nil))) (pa_cons (pe_not (pe_callB (call_isX hz hf) (by rfl) (f_isinstance KX G c) (by decide +kernel) (pa_cons (pv 4) (pa_cons (pe_bltn (by rfl) (f_ValueError KX G c) (by decide +kernel) rfl) pa_nil)))) pa_nil)))) pa_nil)))))))
      (pss_one (ps_ret (pe_tup (pa_cons (pe_str) (pa_cons (pv 3) pa_nil)))))
theorem sc_law_k02 : FnScope ["script", "sizes", "side", "other", "state", "k", "size", "nights", "due", "found"] ["script"] (defScope s_law_k02) := ⟨rfl, rfl, rfl, by decide +kernel, rfl, by decide +kernel, by decide +kernel⟩
theorem ok_law_k02 {P : Program} {w : World} {base : Heap} {h : Heap} {mg : Str → Option Value} {K : PySem.W.Frag} (KX : K.In h) (G : h.Ns mainGlobals mg) (c : He.SaysD fa fn K) (xs : XS K xl) {fd : FuncData} (F : FunD K d_law_k02.name d_law_k02.qual d_law_k02.params d_law_k02.body d_law_k02.scope [] [] (He.fAd K d_law_k02.at_) fd) : FnOk P w K mg base CX0 4 (He.fAd K d_law_k02.at_) fd ["script"] (sp_law_k02 K) := by
  obtain ⟨fd_law_stands, G_law_stands, b_law_stands, k_law_stands⟩ := ok_law_stands (P := P) (w := w) (base := base) KX G c xs
  obtain ⟨fd_law_drawn, G_law_drawn, b_law_drawn, k_law_drawn⟩ := ok_law_drawn (P := P) (w := w) (base := base) KX G c xs
  obtain ⟨fd_law_whole, G_law_whole, b_law_whole, k_law_whole⟩ := ok_law_whole (P := P) (w := w) (base := base) KX G c xs
  obtain ⟨fd_law_told_k02, G_law_told_k02, b_law_told_k02, k_law_told_k02⟩ := ok_law_told_k02 (P := P) (w := w) (base := base) KX G c xs
  obtain ⟨fd_law_due_k02, G_law_due_k02, b_law_due_k02, k_law_due_k02⟩ := ok_law_due_k02 (P := P) (w := w) (base := base) KX G c xs
  obtain ⟨fd_Wall_init, G_Wall_init, b_Wall_init, k_Wall_init⟩ := ok_Wall_init (P := P) (w := w) (base := base) KX G c xs
  obtain ⟨fd_law_sizes_by, G_law_sizes_by, b_law_sizes_by, k_law_sizes_by⟩ := ok_law_sizes_by (P := P) (w := w) (base := base) KX G c xs
  have nd := sc_law_k02.nd
  refine F.ok sc_law_k02 (len_law_k02 (K := K)) (fun cdv A outer s H vs Q E hr hsp => ⟨t_law_k02 K E, PSs.nox ?_, pure_law_k02 (tW c) vs H Q E hsp⟩)
  exact pss_cons (ps_set (i := 1) nd rfl (Or.inl rfl) (pe_call G_law_sizes_by (hr.mono (by decide : 2 ≤ 3)) rfl (g_law_sizes_by KX G c) k_law_sizes_by b_law_sizes_by .nil pass0 (pa_cons (pv 0) (pa_cons (pe_int) pa_nil))))
      (pss_cons (ps_set (i := 2) nd rfl (Or.inl rfl) (pe_make (mkW c) G_Wall_init (hr.mono (by decide : 3 ≤ 3)) rfl (g_Wall KX G c) b_Wall_init .nil passL (pa_cons (pe_callTy call_list_of (by rfl) (f_list KX G c) (by decide +kernel) (pa_cons (pv 1) pa_nil)) pa_nil)))
      (pss_cons (ps_set (i := 3) nd rfl (Or.inl rfl) (pe_make (mkW c) G_Wall_init (hr.mono (by decide : 3 ≤ 3)) rfl (g_Wall KX G c) b_Wall_init .nil passL (pa_cons (pe_callTy call_list_of (by rfl) (f_list KX G c) (by decide +kernel) (pa_cons (pv 1) pa_nil)) pa_nil)))
      (pss_cons (ps_set (i := 4) nd rfl (Or.inl rfl) (pe_lst (pa_cons (pe_lc (own := [("size", 6)]) (g := gName 6) rfl nd (pi_list (pv 1)) (blkOk_by (N := ["script", "sizes", "side", "other", "state", "k", "size", "nights", "due", "found"]) (sc := defScope s_law_k02) (by decide +kernel)) (fun _ _ _ _ _ => pg_name (i := 6) nd rfl (Or.inl rfl)) (fun _ _ _ _ _ => pts_nil) (fun _ _ _ _ _ => pe_non)) (pa_cons (pe_lst pa_nil) (pa_cons (pe_int) pa_nil)))))
      (pss_cons (ps_forP (PassesOwn.never) rfl (pi_range1 rfl (f_range KX G c) (pa_cons (pe_call G_law_drawn (hr.mono (by decide : 1 ≤ 3)) rfl (g_law_drawn KX G c) k_law_drawn b_law_drawn .nil pass0 (pa_cons (pv 0) (pa_cons (pe_int) (pa_cons (pe_int) pa_nil)))) pa_nil)) (pg_name (i := 5) nd rfl (Or.inl rfl))
        (pss_cons (ps_set (i := 6) nd rfl (Or.inl rfl) (pe_op op_add (pe_int) (pe_call G_law_drawn (hr.mono (by decide : 1 ≤ 3)) rfl (g_law_drawn KX G c) k_law_drawn b_law_drawn .nil pass0 (pa_cons (pv 0) (pa_cons (pe_op op_add (pe_int) (pe_op op_mul (pe_int) (pv 5))) (pa_cons (pe_ix ix_list (pe_lst (pa_cons (pe_int) (pa_cons (pe_int) (pa_cons (pe_int) pa_nil)))) (pe_call G_law_drawn (hr.mono (by decide : 1 ≤ 3)) rfl (g_law_drawn KX G c) k_law_drawn b_law_drawn .nil pass0 (pa_cons (pv 0) (pa_cons (pe_int) (pa_cons (pe_int) pa_nil)))) (fun _ _ => rfl)) pa_nil))))))
      (pss_cons (ps_set (i := 7) nd rfl (Or.inl rfl) (pe_op op_add (pe_int) (pe_call G_law_drawn (hr.mono (by decide : 1 ≤ 3)) rfl (g_law_drawn KX G c) k_law_drawn b_law_drawn .nil pass0 (pa_cons (pv 0) (pa_cons (pe_op op_add (pe_int) (pe_op op_mul (pe_int) (pv 5))) (pa_cons (pe_int) pa_nil))))))
      (pss_cutP (ps_if (pt_cmpR op_eq (pe_call G_law_drawn (hr.mono (by decide : 1 ≤ 3)) rfl (g_law_drawn KX G c) k_law_drawn b_law_drawn .nil pass0 (pa_cons (pv 0) (pa_cons (pe_op op_add (pe_int) (pe_op op_mul (pe_int) (pv 5))) (pa_cons (pe_int) pa_nil)))) (pe_int) (nomark _))
        (pss_one (ps_set (i := 6) nd rfl (Or.inl rfl) (pe_ix ix_list (pe_lst (pa_cons (pe_int) (pa_cons (pe_int) (pa_cons (pe_un un_neg (pe_int)) (pa_cons (pe_op op_pow (pe_int) (pe_int)) pa_nil))))) (pe_call G_law_drawn (hr.mono (by decide : 1 ≤ 3)) rfl (g_law_drawn KX G c) k_law_drawn b_law_drawn .nil pass0 (pa_cons (pv 0) (pa_cons (pe_op op_add (pe_int) (pe_op op_mul (pe_int) (pv 5))) (pa_cons (pe_int) pa_nil)))) (fun _ _ => rfl))))
        (pss_nil))
      (pss_cutP (ps_if (pt_cmpR op_eq (pe_call G_law_drawn (hr.mono (by decide : 1 ≤ 3)) rfl (g_law_drawn KX G c) k_law_drawn b_law_drawn .nil pass0 (pa_cons (pv 0) (pa_cons (pe_op op_add (pe_int) (pe_op op_mul (pe_int) (pv 5))) (pa_cons (pe_int) pa_nil)))) (pe_int) (nomark _))
        (pss_one (ps_set (i := 7) nd rfl (Or.inl rfl) (pe_ix ix_list (pe_lst (pa_cons (pe_int) (pa_cons (pe_int) (pa_cons (pe_un un_neg (pe_int)) (pa_cons (pe_op op_pow (pe_int) (pe_int)) pa_nil))))) (pe_call G_law_drawn (hr.mono (by decide : 1 ≤ 3)) rfl (g_law_drawn KX G c) k_law_drawn b_law_drawn .nil pass0 (pa_cons (pv 0) (pa_cons (pe_op op_add (pe_int) (pe_op op_mul (pe_int) (pv 5))) (pa_cons (pe_int) pa_nil)))) (fun _ _ => rfl))))
        (pss_nil))
      (pss_cons (ps_set (i := 8) nd rfl (Or.inl rfl) (pe_call G_law_due_k02 (hr.mono (by decide : 2 ≤ 3)) rfl (g_law_due KX G c) k_law_due_k02 b_law_due_k02 .nil pass0 (pa_cons (pv 1) (pa_cons (pv 4) (pa_cons (pe_tup (pa_cons (pe_str) (pa_cons (pv 6) (pa_cons (pv 7) pa_nil)))) pa_nil)))))
      (pss_cons (ps_set (i := 9) nd rfl (Or.inl rfl) (pe_call G_law_told_k02 (hr.mono (by decide : 3 ≤ 3)) rfl (g_law_told KX G c) k_law_told_k02 b_law_told_k02 .nil pass0 (pa_cons (pv 2) (pa_cons (pv 6) (pa_cons (pv 7) pa_nil)))))
      (pss_cutP (ps_if (pt_val (pe_callB call_isi (by rfl) (f_isinstance KX G c) (by decide +kernel) (pa_cons (pv 8) (pa_cons (pe_bltn (by rfl) (f_str KX G c) (by decide +kernel) rfl) pa_nil))))
        (pss_one (ps_if (pt_cmpR (op_neDI hr.units) (pv 9) (pe_tup (pa_cons (pe_str) (pa_cons (pe_lst (pa_cons (pe_cmpR op_eq (pv 8) (pe_str) (nomark _)) (pa_cons (pe_cmpR op_eq (pv 8) (pe_str) (nomark _)) (pa_cons (pe_cmpR op_eq (pv 8) (pe_str) (nomark _)) (pa_cons (pe_bl) (pa_cons (pe_bl) (pa_cons (pe_bl) pa_nil))))))) pa_nil))) (nomark _))
        (pss_one (ps_ret (pe_bl)))
        (pss_nil)))
        (pss_one (ps_if (PW.pt (pw_or (pt_cmpR op_ne (pe_ix ix_tup (pv 9) (pe_int) (fun _ _ => rfl)) (pe_str) (nomark _)) (pw_or (pt_not (pt_val (pe_call G_law_whole (hr.mono (by decide : 1 ≤ 3)) rfl (g_law_whole KX G c) k_law_whole b_law_whole .nil pass0 (pa_cons (pe_ix ix_tup (pv 9) (pe_int) (fun _ _ => rfl)) pa_nil)))) (pw_or1 (pt_cmpR op_ne (pe_ix ix_tup (pv 9) (pe_int) (fun _ _ => rfl)) (pv 8) (nomark _))))))
        (pss_one (ps_ret (pe_bl)))
        (pss_nil))))
      (pss_one (ps_if (pt_not (pt_val (pe_call G_law_stands (hr.mono (by decide : 3 ≤ 3)) rfl (g_law_stands KX G c) k_law_stands b_law_stands .nil pass0 (pa_cons (pv 2) (pa_cons (pv 1) (pa_cons (pe_ix ix_list (pv 4) (pe_int) (fun _ _ => rfl)) (pa_cons (pe_int) pa_nil)))))))
        (pss_one (ps_ret (pe_bl)))
        (pss_nil)))))))))))
      (pss_one (ps_ret (pe_call G_law_stands (hr.mono (by decide : 3 ≤ 3)) rfl (g_law_stands KX G c) k_law_stands b_law_stands .nil pass0 (pa_cons (pv 3) (pa_cons (pv 1) (pa_cons (pe_lc (own := [("size", 6)]) (g := gName 6) rfl nd (pi_list (pv 1)) (blkOk_by (N := ["script", "sizes", "side", "other", "state", "k", "size", "nights", "due", "found"]) (sc := defScope s_law_k02) (by decide +kernel)) (fun _ _ _ _ _ => pg_name (i := 6) nd rfl (Or.inl rfl)) (fun _ _ _ _ _ => pts_nil) (fun _ _ _ _ _ => pe_non)) (pa_cons (pe_int) pa_nil)))))))))))
def exb (K : PySem.W.Frag) : Bool := xsB K xl
abbrev hk : PySem.W.Hook := He.hookX 4 fa fn [] [] exb
def ob (s : PySem.W.SharedT) : He.AlX := He.obsX 4 fa fn [] [] exb (HandSHeadRun.getT s)
theorem ob_eq (s : PySem.W.SharedT) : ob s = hk.obs s.abs := He.obsX_eq (HandSHeadRun.getT_eq s)
theorem run (w : World) : HandSHeadRun.RunEq R (PySem.W.view R.prog [25]) hk ob 4000 ["_wall", "__name__", "WallError", "NoWall", "NoSize", "NoNights", "NoBox", "NoParcel", "MOST_BOXES", "MOST_SIZE", "is_size", "least_box", "Wall", "_law_drawn", "_law_whole", "_law_row", "_law_rows", "_law_sizes_by", "_law_held", "_law_stands", "_law_box_for", "_law_due", "_law_told"] w := by
  intro os
  kernel_rfl
theorem facts {P : Program} {w : World} {K : PySem.W.Frag} {h : Heap} {mg : Str → Option Value} {f : Addr} (KX : K.In h) (G : h.Ns mainGlobals mg) (hfa : mg ("law" : Str) = some (.ref f)) (c : He.SaysD fa fn K) (xs : XS K xl) :
    ∃ fd : FuncData, (∀ (s : Shared) (v : Value), BindsTo s fd ⟨[v], []⟩ [("script", v)]) ∧ ∀ base : Heap, K.In base → base.Ns mainGlobals mg → FnOk P w K mg base CX0 4 f fd ["script"] (sp_law_k02 K) := by
  obtain ⟨fd, F⟩ := c.def_ 17 (d := d_law_k02) rfl
  have e := hfa.symm.trans (g_law KX G c)
  cases e
  have b := FunD.bindsA (ps := ["script"]) F fun _ _ _ _ _ _ us hl => match us, hl with | [_], _ => rfl
  exact ⟨fd, fun s v => b s [v] rfl, fun base _ _ => ok_law_k02 KX G c xs F⟩
end Pw
open PySem PySem.W PySem.Calls PyProof.Rows
theorem PySem.Challenge.cw_parcelwall_k02_parcels_come_holds : PySem.Challenge.rw_parcelwall_k02_parcels_come.Holds := by
  w_on; o_law
  refine HandSHeadRun.head_any (r := OpenLaw.row PySem.Challenge.rw_parcelwall_k02_parcels_come) (q := view (OpenLaw.row PySem.Challenge.rw_parcelwall_k02_parcels_come).prog [25]) (H := Pw.hk) (ob := Pw.ob) (M := 4000) (loose := ["_wall", "__name__", "WallError", "NoWall", "NoSize", "NoNights", "NoBox", "NoParcel", "MOST_BOXES", "MOST_SIZE", "is_size", "least_box", "Wall", "_law_drawn", "_law_whole", "_law_row", "_law_rows", "_law_sizes_by", "_law_held", "_law_stands", "_law_box_for", "_law_due", "_law_told"]) (d := HandSHeadRun.topDef (OpenLaw.row PySem.Challenge.rw_parcelwall_k02_parcels_come).prog 25) (kwd := []) Pw.ob_eq
    (by kernel_rfl) (fun s => by kernel_rfl) Pw.run (by kernel_rfl) (by kernel_rfl) (by kernel_rfl) (by rfl) (by first | assumption | decide +kernel) (by decide +kernel) ⟨rfl, rfl, rfl, rfl, rfl, by decide +kernel⟩ ?hw ?hc
  case hw => w_witness2
  case hc =>
    refine L2.walk_ofE (l := PySem.Challenge.rw_parcelwall_k02_parcels_come) (n := 63) (k := 4) (x := "script") (CX := L2.CX0) rfl (by decide) (by kernel_rfl) ⟨rfl, by decide, by decide⟩ ?F (fun _ _ _ _ z => z)
    intro w mg fa h Y G hmg0
    obtain ⟨K, KX, sx⟩ := Y
    have hmg : mg ("law" : PySem.Str) = some (.ref fa) := by
      have e : (HandSHeadRun.topDef (OpenLaw.row PySem.Challenge.rw_parcelwall_k02_parcels_come).prog 25).name = ("law" : PySem.Str) := by kernel_rfl
      rw [← e]
      exact hmg0
    obtain ⟨fd, hb, hF⟩ := Pw.facts (P := (PySem.Challenge.rw_parcelwall_k02_parcels_come).prog) (w := w) KX G hmg sx.t.d ⟨sx.more⟩
    exact ⟨K, fd, Pw.sp_law_k02 K, KX, hb, fun H a ns hl _ hS => ⟨a, ns, rfl, hS, hl, fun _ => rfl⟩, hF⟩
