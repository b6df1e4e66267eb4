import PyProof.Rows.All
import Wide.All
import OpenK.AllK
import Wide.FinOn
import KE.KStateDown
import HandS.ForMost
import HandS.ForExc
import HandS.Defaults
import HandS.TryMany
import HandS.SortRule
import HandS.SortInts
import HandS.SetFor
import HandS.More
import HandS.IsInst
import HandS.ExcIs
import HandS.Zip
import HandS.Evl
import HandS.Head0
import HandS.Head1
import HandS.Head2
import HandS.HeadEnd
import HandS.HeadHook1
import HandS.HeadHook2
import HandS.HeadHook3
import HandS.HeadHook4
import HandS.Conv
import HandS.Walk
import HandS.Codes
import HandS.SuiteRaise
import KE.KMinKey
import PySem.Challenge.RW_parcelwall_k12_logs_done_again
set_option Elab.async false
set_option linter.all false
set_option maxRecDepth 100000
set_option maxHeartbeats 4000000
open PySem PySem.Spec PyProof.Rows L2
namespace Pw
/-! ### readings by short names -/
abbrev rAddI : R2 := rI0 fun i j => .int (i + j)
abbrev rSubI : R2 := rI0 fun i j => .int (i - j)
abbrev rMulI : R2 := rI CMul fun i j => .int (i * j)
abbrev rModP : R2 := rI (fun _ j => 0 < j) fun i j => .int (i % j)
abbrev rModN : R2 := rI (fun _ j => j ≠ 0) fun i j => .int (i.fmod j)
abbrev rDivP : R2 := rI CDiv fun i j => .int (i / j)
abbrev rPow : R2 := rI CPow fun i j => .int (i ^ j.toNat)
abbrev rNeg : V → Hp → VK → Prop := rU fun i => .int (-i)
abbrev rLt : R2 := rI0 fun i j => .bl (decide (i < j))
abbrev rLe : R2 := rI0 fun i j => .bl (decide (i ≤ j))
abbrev rGt : R2 := rI0 fun i j => .bl (decide (j < i))
abbrev rGe : R2 := rI0 fun i j => .bl (decide (j ≤ i))
abbrev rAddS : R2 := fun x y H Q => ∃ i j, x = .str i ∧ y = .str j ∧ i.length + j.length ≤ sizeLine ∧ Q (.str (i ++ j)) H
abbrev rIsNone : R2 := fun x y H Q => y = .non ∧ Q (.bl (decide (x = .non))) H
abbrev rNotNone : R2 := fun x y H Q => y = .non ∧ Q (.bl (!decide (x = .non))) H
abbrev rInSign : R2 := fun x y H Q => ∃ (c : Nat) (z : Str), x = .str ⟨#[c]⟩ ∧ y = .str z ∧ Q (.bl (decide (c ∈ z.cps.toList))) H
abbrev rNotInSign : R2 := fun x y H Q => ∃ (c : Nat) (z : Str), x = .str ⟨#[c]⟩ ∧ y = .str z ∧ Q (.bl (!decide (c ∈ z.cps.toList))) H
abbrev rLenSeq (K : PySem.W.Frag) : List V → Hp → VK → Prop := fun xs H Q => ∃ p ys, xs = [.ref p] ∧ (SqL K H p ys ∨ SqT K H p ys) ∧ Q (.int ys.length) H
abbrev rListOf (K : PySem.W.Frag) : List V → Hp → VK → Prop := fun xs H Q => ∃ p ys, xs = [.ref p] ∧ (SqL K H p ys ∨ SqT K H p ys) ∧ ∀ l, H l = none → Q (.ref l) (upd H l (.lst ys))
abbrev rLenStr : List V → Hp → VK → Prop := fun xs H Q => ∃ z, xs = [.str z] ∧ z.length ≤ sizeLine ∧ Q (.int z.length) H
abbrev rMax2 : List V → Hp → VK → Prop := fun xs H Q => ∃ i j, xs = [.int i, .int j] ∧ Q (.int (if j > i then j else i)) H
abbrev rMin2 : List V → Hp → VK → Prop := fun xs H Q => ∃ i j, xs = [.int i, .int j] ∧ Q (.int (if j < i then j else i)) H
abbrev rInsert : V → List V → Hp → VK → Prop := fun x vs H Q => ∃ (l : Addr) (xs : List V) (i : Int) (y : V), x = .ref l ∧ vs = [.int i, y] ∧ H l = some (.lst xs) ∧ xs.length < sizeLine ∧ 0 ≤ i ∧ i < 2 ^ 63 ∧ Q .non (upd H l (.lst (xs.take i.toNat ++ [y] ++ xs.drop i.toNat)))
abbrev rStrInt : List V → Hp → VK → Prop := fun xs H Q => ∃ i, xs = [.int i] ∧ i.natAbs.log2 < 1920 ∧ Q (.str (toString i)) H
abbrev rIntStr : List V → Hp → VK → Prop := fun xs H Q => ∃ a n, xs = [.str a] ∧ PySem.intText? a = some n ∧ a.length ≤ 640 ∧ Q (.int n) H
abbrev rJoin (K : PySem.W.Frag) : V → List V → Hp → VK → Prop := fun x xs H Q => ∃ a p, ∃ ys : List Str, x = .str a ∧ xs = [.ref p] ∧ (SqL K H p (ys.map V.str) ∨ SqT K H p (ys.map V.str)) ∧ (ys.map (·.length)).sum + ys.length * a.length ≤ 16777216 ∧ Q (.str (Txt.join a ys)) H
abbrev tRaise (E : XK) (C : Addr) : TS := fun _ _ H => E (.ref C) none H
/-! ### rules: a method's call, an instance made, within a try -/
/-- o.m(e, ..) within a try: what it raises is wished for at the slots as they stand -/
def tMethS (C : Addr) (m : Str) (sp : Sp) (E : L2.St → XK) (ta : TE) (t : TA) : TE := fun σ H Q => ta σ H fun x H1 => ∃ a dx fs, x = .ref a ∧ H1 a = some (.ins C dx fs) ∧ fs.lookup m = none ∧ t σ H1 fun vs H2 => sp (x :: vs) H2 Q (E σ)
theorem pe_methS {X : Cx} {CX : CXT} {k : Nat} {f C : Addr} {fd : FuncData} {ps : List Str} {sp : Sp} {E : L2.St → XK} {m : Str} {pos apos : Pos} {e o : Expr} {es : List Expr} {ta : TE} {t : TA} {pl : Sem Bool} (he : PE X o ta) (c : Cls X.K C) (hm : Meth X.K C m f)
    (F : FnOk X.prog X.w X.K X.mg X.base CX k f fd ps sp) (hr : Room k X.A) (hb : Binds X.K fd ps []) (hx : ∀ σ, PassesAt CX X σ (E σ)) (ha : PA X (e :: es) t)
    (hst : starEach (e :: es) X.env = (false, eval e X.env) :: starEach es X.env := by rfl) (hpl : (backTo pos (starEach es X.env)).any (·.1) = false := by rfl)
    (ht : eval (.Call (.Attribute o m apos) (e :: es) [] pos) X.env = (do
      let ov ← eval o X.env
      standAt apos.atName
      let (f, first) ← holding [ov] (getMethod ov m pl)
      callWith pos f first (backTo pos (starEach (e :: es) X.env)) (backToKw pos (keywordEach [] X.env))) := by rfl) :
    PE X (.Call (.Attribute o m apos) (e :: es) [] pos) (tMethS C m sp E ta t) := by
  refine ⟨fun pins s σ H Q I h => ?_⟩
  refine PySem.W.methodCall_KW (pl := pl) (thn (he.run pins s σ H _ I h) fun u s1 ⟨x, H1, I1, rx, a, dx, fs, ex, ea, l, q⟩ => ?_) ht
  subst ex
  obtain rfl : u = Value.ref a := rx
  refine getmeth_ok I1 ea c hm l ?_
  refine PySem.W.callWith_K (first := [.ref a]) (h₀ := X.base) I.ok.mod.kin hm.kp (thn (ha.run pos pins s1 σ H1 _ I1 q) fun us s2 ⟨vs, H2, I2, r, q2⟩ => ⟨I2.kIn, ?_⟩) hst hpl
  exact run_fnS (us := .ref a :: us) (vs := .ref a :: vs) F hr hb (hx σ) I2 (.cons rfl r) q2
/-! ### small words -/
theorem ifD {c A B : Prop} [Decidable c] (h1 : c → A) (h2 : ¬ c → B) : if decide c = true then A else B := by
  by_cases h : c
  · rw [decide_eq_true h, if_pos rfl]; exact h1 h
  · rw [decide_eq_false h, if_neg Bool.false_ne_true]; exact h2 h
theorem ifN {c A B : Prop} [Decidable c] (h1 : ¬ c → A) (h2 : c → B) : if (!decide c) = true then A else B := by
  by_cases h : c
  · rw [decide_eq_true h]; exact iteF (h2 h)
  · rw [decide_eq_false h]; exact iteT (h1 h)
theorem ifB {b : Bool} {A B : Prop} (h1 : b = true → A) (h2 : b = false → B) : if b = true then A else B := by
  cases b with
  | true => exact iteT (h1 rfl)
  | false => exact iteF (h2 rfl)
theorem ifNB {b : Bool} {A B : Prop} (h1 : b = false → A) (h2 : b = true → B) : if (!b) = true then A else B := by
  cases b with
  | true => exact iteF (h2 rfl)
  | false => exact iteT (h1 rfl)
theorem ifIs {b : Bool} {A B : Prop} (h : b = true) (a : A) : if b = true then A else B := by rw [h]; exact iteT a
theorem ifNo {b : Bool} {A B : Prop} (h : b = false) (a : B) : if b = true then A else B := by rw [h]; exact iteF a
/-! ### heaps -/
theorem updOld {H : Hp} {a p : Addr} {o u : HO} (h : H a = some o) (hp : H p = none) : upd H p u a = some o := by rw [upd_ne (ne_of_none h hp)]; exact h
theorem updNe {H : Hp} {a p : Addr} {o u : HO} (h : H a = some o) (hp : a ≠ p) : upd H p u a = some o := by rw [upd_ne hp]; exact h
theorem updFree {H : Hp} {p q : Addr} {o : HO} (h : upd H p o q = none) : H q = none := by
  by_cases e : q = p
  · subst e; rw [upd_same] at h; cases h
  · rw [upd_ne e] at h; exact h
theorem updFreeNe {H : Hp} {p q : Addr} {o : HO} (h : upd H p o q = none) : q ≠ p := fun e => by
  subst e; rw [upd_same] at h; cases h
theorem sameNew {H0 H : Hp} {p : Addr} {o : HO} (s : Same H0 H) (hp : H p = none) : Same H0 (upd H p o) := fun b u e => updOld (s b u e) hp
theorem sameMut {H0 H : Hp} {p : Addr} {o : HO} (s : Same H0 H) (hp : H0 p = none) : Same H0 (upd H p o) := fun b u e => by
  rw [upd_ne (ne_of_none e hp)]; exact s b u e
theorem sameGet {H H' : Hp} {a : Addr} {o : HO} (s : Same H H') (h : H a = some o) : H' a = some o := s a o h
/-! ### places in a list -/
theorem atI_of {xs : List V} {z : Int} {j : Nat} {v : V} (e : z = (j : Int)) (h : xs[j]? = some v) : atI xs z = some v := at_of e h
theorem mapGet {α : Type} {f : α → V} {xs : List α} {i : Nat} {v : V} (h : (xs.map f)[i]? = some v) : ∃ x, xs[i]? = some x ∧ v = f x := by
  rw [List.getElem?_map] at h
  cases e : xs[i]? with
  | none => rw [e] at h; cases h
  | some x => rw [e] at h; exact ⟨x, rfl, (Option.some.inj h).symm⟩
theorem getMap {α : Type} {f : α → V} {xs : List α} {i : Nat} {x : α} (h : xs[i]? = some x) : (xs.map f)[i]? = some (f x) := by
  rw [List.getElem?_map, h]; rfl
theorem atMap {α : Type} {f : α → V} {xs : List α} (d : α) {z : Int} (h0 : 0 ≤ z) (h1 : z < xs.length) : atI (xs.map f) z = some (f (xs.getD z.toNat d)) := by
  obtain ⟨x, hx⟩ : ∃ x, xs[z.toNat]? = some x := ⟨xs[z.toNat]'(by omega), List.getElem?_eq_getElem (by omega)⟩
  have e : xs.getD z.toNat d = x := by rw [List.getD_eq_getElem?_getD, hx]; rfl
  rw [e]
  exact at_of (j := z.toNat) (by omega) (getMap hx)
theorem atInt {xs : List Int} {z : Int} (h0 : 0 ≤ z) (h1 : z < xs.length) : atI (xs.map V.int) z = some (V.int (xs.getD z.toNat 0)) := atMap 0 h0 h1
theorem takeMore {α : Type} : ∀ {l : List α} {i : Nat} {x : α}, l[i]? = some x → l.take (i + 1) = l.take i ++ [x]
  | [], i, x, h => by simp at h
  | a :: l, 0, x, h => by
    have e : a = x := Option.some.inj h
    subst e; rfl
  | a :: l, i + 1, x, h => by
    have ih := takeMore (l := l) (i := i) (x := x) h
    show a :: l.take (i + 1) = a :: l.take i ++ [x]
    rw [ih]; rfl
theorem szLe {n : Nat} (h : n ≤ 100000) : n ≤ sizeLine := Nat.le_trans h (by decide)
theorem szLt {n : Nat} (h : n < 100000) : n < sizeLine := Nat.lt_of_lt_of_le h (by decide)
theorem getLt {α : Type} {xs : List α} {i : Nat} {x : α} (h : xs[i]? = some x) : i < xs.length := (List.getElem?_eq_some_iff.mp h).1
theorem getOf {α : Type} {xs : List α} {i : Nat} (h : i < xs.length) : ∃ x, xs[i]? = some x := ⟨xs[i], List.getElem?_eq_getElem h⟩
/-! ### a def of the text that holds its promise -/
def OkF (P : Program) (w : World) (K : PySem.W.Frag) (mg : Str → Option Value) (base : Heap) (CX : CXT) (k : Nat) (f : Addr) (ps : List Str) (sp : Sp) : Prop :=
  ∃ fd : FuncData, FnOk P w K mg base CX k f fd ps sp ∧ Binds K fd ps [] ∧ PySem.W.keepIn K (.ref f) = true
end Pw
namespace Pw
/-! ### the wall's class -/
structure TW (K : PySem.W.Frag) : Prop where
  cl : Cls K (He.ga K "Wall")
  nb : NoAttr K (He.ga K "Wall") "boxes"
  ni : NoAttr K (He.ga K "Wall") "inside"
  np : NoAttr K (He.ga K "Wall") "parcels"
  nt : NoAttr K (He.ga K "Wall") "today"
end Pw
namespace Pw
/-! ### loops behind a word that does not open by itself -/
@[irreducible] def ForG (J : It) (g : TG) (tb : TS) (D : Ends) (σ : L2.St) (H1 : Hp) : Prop := ∃ W : Nat → Nat → L2.St → Hp → Prop, (∃ m, W 0 m σ H1) ∧ ∀ i m σ H, W i m σ H →
  (J.stop i H ∧ D.nx σ H) ∨ (J.go i H ∧ ∃ N : L2.St → Hp → Prop, (∀ σ' H', N σ' H' → ∃ m', m' < m ∧ W (i + 1) m' σ' H') ∧ ∀ x H', J.yld i H x H' → g x σ H' fun σ2 H2 => tb { D with nx := N, ct := N, bk := D.nx } σ2 H2)
def tForP (wi : TI) (g : TG) (tb : TS) : TS := fun D σ H => wi σ H fun J H1 => ForG J g tb D σ H1
theorem tForP_eq (wi : TI) (g : TG) (tb : TS) : tForP wi g tb = tFor wi g tb := by
  funext D σ H
  unfold tForP tFor ForG
  rfl
theorem ps_forP {X : Cx} {tg iter : Expr} {body : List Stmt} {wi : TI} {g : TG} {tb : TS} {pos : Pos} (hp : PassesOwn (model X.prog X.w) X.A X.env X.xe) (hc : X.calm = true) (hi : PI X tg iter wi) (hg : PG X tg g) (hb : PSs X body tb)
    (hs : ∀ x, foldedSetIterable iter X.env x = pure x := by intro _; rfl) : PS X (.For tg iter body [] pos) (tForP wi g tb) := by
  rw [tForP_eq]
  exact ps_for hp hc hi hg hb hs
@[irreducible] def WhileG (tc : TT) (tb : TS) (D : Ends) (σ : L2.St) (H : Hp) : Prop := tWhile tc tb D σ H
def tWhileP (tc : TT) (tb : TS) : TS := fun D σ H => WhileG tc tb D σ H
theorem tWhileP_eq (tc : TT) (tb : TS) : tWhileP tc tb = tWhile tc tb := by
  funext D σ H
  unfold tWhileP WhileG
  rfl
theorem ps_whileP {X : Cx} {pos : Pos} {c : Expr} {body : List Stmt} {tc : TT} {tb : TS} (hp : PassesOwn (model X.prog X.w) X.A X.env X.xe) (hc : PT X c tc) (hb : PSs X body tb) : PS X (.While c body [] pos) (tWhileP tc tb) := by
  rw [tWhileP_eq]
  exact ps_while hp hc hb
section
variable {K : PySem.W.Frag} {g : TG} {tb : TS} {D : Ends} {σ : L2.St} {H : Hp}
theorem forList {a : Addr} {xs : List V} (Pv : Nat → L2.St → Hp → Prop) (h0 : Pv 0 σ H) (hl : ∀ i σ H, i ≤ xs.length → Pv i σ H → SqL K H a xs)
    (hs : ∀ i x σ H, xs[i]? = some x → Pv i σ H → g x σ H fun σ2 H2 => tb { D with nx := Pv (i + 1), ct := Pv (i + 1), bk := D.nx } σ2 H2) (hd : ∀ σ H, Pv xs.length σ H → D.nx σ H) : ForG (Itl K a) g tb D σ H := by
  unfold ForG
  exact for_list Pv h0 hl hs hd
theorem forTup {a : Addr} {xs : List V} (Pv : Nat → L2.St → Hp → Prop) (h0 : Pv 0 σ H) (hl : ∀ i σ H, i ≤ xs.length → Pv i σ H → SqT K H a xs)
    (hs : ∀ i x σ H, xs[i]? = some x → Pv i σ H → g x σ H fun σ2 H2 => tb { D with nx := Pv (i + 1), ct := Pv (i + 1), bk := D.nx } σ2 H2) (hd : ∀ σ H, Pv xs.length σ H → D.nx σ H) : ForG (Itt K a) g tb D σ H := by
  unfold ForG
  exact for_tup Pv h0 hl hs hd
theorem forRange {lo : Int} {n : Nat} (Pv : Nat → L2.St → Hp → Prop) (h0 : Pv 0 σ H)
    (hs : ∀ i σ H, i < n → Pv i σ H → g (.int (lo + i)) σ H fun σ2 H2 => tb { D with nx := Pv (i + 1), ct := Pv (i + 1), bk := D.nx } σ2 H2) (hd : ∀ σ H, Pv n σ H → D.nx σ H) : ForG (Itr lo n) g tb D σ H := by
  unfold ForG
  exact for_range Pv h0 hs hd
end
/-! ### comprehensions whose elements are known values -/
section
variable {K : PySem.W.Frag} {tt : TT} {te : TE} {vs : List Nat} {j : Nat} {σ : L2.St} {H1 : Hp} {D : Addr} {Qd : Hp → Prop}
theorem filterTake {α β : Type} {ns : List α} {p : α → Bool} {f : α → β} {i : Nat} {n : α} (h : ns[i]? = some n) : ((ns.take (i + 1)).filter p).map f = ((ns.take i).filter p).map f ++ (if p n = true then [f n] else []) := by
  rw [takeMore h, List.filter_append, List.map_append]
  congr 1
  by_cases c : p n = true
  · rw [if_pos c]; simp [c]
  · rw [if_neg c]; simp [c]
/-- [f(n) for n in ns if p(n)] -/
theorem lcMap {α : Type} {inj : α → V} {a : Addr} {ns : List α} (p : α → Bool) (f : α → V) (hD : H1 D = none) (hx : SqL K H1 a (ns.map inj)) (hlen : ns.length ≤ 50000) (hw : ∀ x, wipe ((wipe σ vs).set j (some x)) vs = wipe σ vs)
    (ht : ∀ (i : Nat) (n : α) H', ns[i]? = some n → Same H1 H' → ∀ T : Bool → Hp → Prop, (∀ H'', Same H' H'' → T (p n) H'') → tt ((wipe σ vs).set j (some (inj n))) H' T)
    (he : ∀ (i : Nat) (n : α) H', ns[i]? = some n → p n = true → Same H1 H' → ∀ Qv : VK, (∀ H'', Same H' H'' → Qv (f n) H'') → te ((wipe σ vs).set j (some (inj n))) H' Qv)
    (hd : ∀ H', Same H1 H' → H' D = some (.lst ((ns.filter p).map f)) → Qd H') :
    ∃ W : Nat → Nat → Hp → Prop, (∃ m, W 0 m (upd H1 D (.lst []))) ∧ ∀ i m H, W i m H →
      ((Itl K a).stop i H ∧ Qd H) ∨ ((Itl K a).go i H ∧ ∃ Nx : Hp → Prop, (∀ H', Nx H' → ∃ m', m' < m ∧ W (i + 1) m' H') ∧ ∀ x H', (Itl K a).yld i H x H' → gName j x (wipe σ vs) H' fun σ2 H2 => wipe σ2 vs = wipe σ vs ∧ tt σ2 H2 fun b H3 =>
        if b = true then te σ2 H3 fun y H4 => ∃ acc, H4 D = some (.lst acc) ∧ acc.length < sizeLine ∧ Nx (upd H4 D (.lst (acc ++ [y]))) else Nx H3) := by
  refine lc_list (K := K) (a := a) (xs := ns.map inj) (fun i H' => Same H1 H' ∧ H' D = some (.lst (((ns.take i).filter p).map f))) ⟨sameNew (Same.refl _) hD, upd_same⟩ (fun i H' _ q => q.1.seq hx) ?_ ?_
  · rintro i x H' hi ⟨s, hD'⟩
    obtain ⟨n, hn, rfl⟩ := mapGet hi
    refine ⟨hw _, ?_⟩
    refine ht i n H' hn s _ fun H3 s3 => ?_
    have e := filterTake (p := p) (f := f) hn
    refine ifB (fun c => ?_) (fun c => ?_)
    · refine he i n H3 hn c (s.trans s3) _ fun H4 s4 => ?_
      rw [if_pos c] at e
      refine ⟨_, s4 _ _ (s3 _ _ hD'), ?_, sameMut (s.trans (s3.trans s4)) hD, ?_⟩
      · have q1 : (((ns.take i).filter p).map f).length ≤ ns.length := by
          rw [List.length_map]
          exact Nat.le_trans (List.length_filter_le _ _) (by rw [List.length_take]; omega)
        exact szLt (by omega)
      · rw [e]; exact upd_same
    · rw [if_neg (by rw [c]; exact Bool.false_ne_true), List.append_nil] at e
      refine ⟨s.trans s3, ?_⟩
      rw [e]; exact s3 _ _ hD'
  · rintro H' ⟨s, hD'⟩
    rw [List.length_map, List.take_length] at hD'
    exact hd H' s hD'
/-- [f(i) for i in range(n) if p(i)] -/
theorem lcRng {lo : Int} {n : Nat} (p : Nat → Bool) (f : Nat → V) (hD : H1 D = none) (hlen : n ≤ 50000) (hw : ∀ x, wipe ((wipe σ vs).set j (some x)) vs = wipe σ vs)
    (ht : ∀ (i : Nat) H', i < n → Same H1 H' → ∀ T : Bool → Hp → Prop, (∀ H'', Same H' H'' → T (p i) H'') → tt ((wipe σ vs).set j (some (.int (lo + i)))) H' T)
    (he : ∀ (i : Nat) H', i < n → p i = true → Same H1 H' → ∀ Qv : VK, (∀ H'', Same H' H'' → Qv (f i) H'') → te ((wipe σ vs).set j (some (.int (lo + i)))) H' Qv)
    (hd : ∀ H', Same H1 H' → H' D = some (.lst (((List.range n).filter p).map f)) → Qd H') :
    ∃ W : Nat → Nat → Hp → Prop, (∃ m, W 0 m (upd H1 D (.lst []))) ∧ ∀ i m H, W i m H →
      ((Itr lo n).stop i H ∧ Qd H) ∨ ((Itr lo n).go i H ∧ ∃ Nx : Hp → Prop, (∀ H', Nx H' → ∃ m', m' < m ∧ W (i + 1) m' H') ∧ ∀ x H', (Itr lo n).yld i H x H' → gName j x (wipe σ vs) H' fun σ2 H2 => wipe σ2 vs = wipe σ vs ∧ tt σ2 H2 fun b H3 =>
        if b = true then te σ2 H3 fun y H4 => ∃ acc, H4 D = some (.lst acc) ∧ acc.length < sizeLine ∧ Nx (upd H4 D (.lst (acc ++ [y]))) else Nx H3) := by
  refine lc_range (lo := lo) (n := n) (fun i H' => Same H1 H' ∧ H' D = some (.lst (((List.range i).filter p).map f))) ⟨sameNew (Same.refl _) hD, upd_same⟩ ?_ ?_
  · rintro i H' hi ⟨s, hD'⟩
    refine ⟨hw _, ?_⟩
    refine ht i H' hi s _ fun H3 s3 => ?_
    have e : ((List.range (i + 1)).filter p).map f = ((List.range i).filter p).map f ++ (if p i = true then [f i] else []) := by
      rw [List.range_succ, List.filter_append, List.map_append]
      congr 1
      by_cases c : p i = true
      · rw [if_pos c]; simp [c]
      · rw [if_neg c]; simp [c]
    refine ifB (fun c => ?_) (fun c => ?_)
    · refine he i H3 hi c (s.trans s3) _ fun H4 s4 => ?_
      rw [if_pos c] at e
      refine ⟨_, s4 _ _ (s3 _ _ hD'), ?_, sameMut (s.trans (s3.trans s4)) hD, ?_⟩
      · have q1 : (((List.range i).filter p).map f).length ≤ i := by
          rw [List.length_map]
          exact Nat.le_trans (List.length_filter_le _ _) (by rw [List.length_range]; omega)
        exact szLt (by omega)
      · rw [e]; exact upd_same
    · rw [if_neg (by rw [c]; exact Bool.false_ne_true), List.append_nil] at e
      refine ⟨s.trans s3, ?_⟩
      rw [e]; exact s3 _ _ hD'
  · rintro H' ⟨s, hD'⟩
    exact hd H' s hD'
end
theorem filterAll {α : Type} (l : List α) : l.filter (fun _ => true) = l := by simp
/-- a new list is handed back -/
def RetNew (H : Hp) (Q : VK) (xs : List V) : Prop := ∀ H' p, Same H H' → H p = none → H' p = some (.lst xs) → Q (.ref p) H'
theorem RetNew.go {H H1 H' : Hp} {Q : VK} {xs : List V} {p : Addr} (k : RetNew H Q xs) (s : Same H H1) (s1 : Same H1 H') (hp : H1 p = none) (h : H' p = some (.lst xs)) : Q (.ref p) H' := k H' p (s.trans s1) (s.free hp) h
/-! ### the wall in the heap -/
def wf (l1 l2 l3 : Addr) (d : Int) : List (Str × V) := [("boxes", .ref l1), ("inside", .ref l2), ("parcels", .ref l3), ("today", .int d)]
theorem lk_here {k : Str} {v : V} {r : List (Str × V)} : List.lookup k ((k, v) :: r) = some v := by
  have e : (k == k) = true := beq_self_eq_true k
  simp only [List.lookup, e]
theorem lk_past {k g : Str} {v : V} {r : List (Str × V)} (h : (k == g) = false) : List.lookup k ((g, v) :: r) = List.lookup k r := by
  simp only [List.lookup, h]
theorem put_here {f : Str} {v x : V} {r : List (Str × V)} : putF f v ((f, x) :: r) = (f, v) :: r := if_pos rfl
theorem put_past {f g : Str} {v x : V} {r : List (Str × V)} (h : ¬ g = f) : putF f v ((g, x) :: r) = (g, x) :: putF f v r := if_neg h
section
variable {l1 l2 l3 : Addr} {d y : Int}
theorem wf_boxes : (wf l1 l2 l3 d).lookup ("boxes" : Str) = some (.ref l1) := lk_here
theorem wf_inside : (wf l1 l2 l3 d).lookup ("inside" : Str) = some (.ref l2) := (lk_past (by decide +kernel)).trans lk_here
theorem wf_parcels : (wf l1 l2 l3 d).lookup ("parcels" : Str) = some (.ref l3) := (lk_past (by decide +kernel)).trans ((lk_past (by decide +kernel)).trans lk_here)
theorem wf_today : (wf l1 l2 l3 d).lookup ("today" : Str) = some (.int d) := (lk_past (by decide +kernel)).trans ((lk_past (by decide +kernel)).trans ((lk_past (by decide +kernel)).trans lk_here))
theorem wf_none {m : Str} (h1 : (m == ("boxes" : Str)) = false) (h2 : (m == ("inside" : Str)) = false) (h3 : (m == ("parcels" : Str)) = false) (h4 : (m == ("today" : Str)) = false) : (wf l1 l2 l3 d).lookup m = none :=
  (lk_past h1).trans ((lk_past h2).trans ((lk_past h3).trans ((lk_past h4).trans rfl)))
theorem wf_sizes : (wf l1 l2 l3 d).lookup ("sizes" : Str) = none := wf_none (by decide +kernel) (by decide +kernel) (by decide +kernel) (by decide +kernel)
theorem wf_held : (wf l1 l2 l3 d).lookup ("held" : Str) = none := wf_none (by decide +kernel) (by decide +kernel) (by decide +kernel) (by decide +kernel)
theorem wf_day : (wf l1 l2 l3 d).lookup ("day" : Str) = none := wf_none (by decide +kernel) (by decide +kernel) (by decide +kernel) (by decide +kernel)
theorem wf_free : (wf l1 l2 l3 d).lookup ("free" : Str) = none := wf_none (by decide +kernel) (by decide +kernel) (by decide +kernel) (by decide +kernel)
theorem wf_see : (wf l1 l2 l3 d).lookup ("see" : Str) = none := wf_none (by decide +kernel) (by decide +kernel) (by decide +kernel) (by decide +kernel)
theorem wf_size_of : (wf l1 l2 l3 d).lookup ("size_of" : Str) = none := wf_none (by decide +kernel) (by decide +kernel) (by decide +kernel) (by decide +kernel)
theorem wf_left : (wf l1 l2 l3 d).lookup ("left" : Str) = none := wf_none (by decide +kernel) (by decide +kernel) (by decide +kernel) (by decide +kernel)
theorem wf_come : (wf l1 l2 l3 d).lookup ("come" : Str) = none := wf_none (by decide +kernel) (by decide +kernel) (by decide +kernel) (by decide +kernel)
theorem wf_fetch : (wf l1 l2 l3 d).lookup ("fetch" : Str) = none := wf_none (by decide +kernel) (by decide +kernel) (by decide +kernel) (by decide +kernel)
theorem wf_night : (wf l1 l2 l3 d).lookup ("night" : Str) = none := wf_none (by decide +kernel) (by decide +kernel) (by decide +kernel) (by decide +kernel)
theorem wf_move : (wf l1 l2 l3 d).lookup ("move" : Str) = none := wf_none (by decide +kernel) (by decide +kernel) (by decide +kernel) (by decide +kernel)
theorem wf_put : putF "today" (.int y) (wf l1 l2 l3 d) = wf l1 l2 l3 y := (put_past (by decide +kernel)).trans (congrArg _ ((put_past (by decide +kernel)).trans (congrArg _ ((put_past (by decide +kernel)).trans (congrArg _ put_here)))))
theorem wf_new : putF "today" (.int d) (putF "parcels" (.ref l3) (putF "inside" (.ref l2) (putF "boxes" (.ref l1) []))) = wf l1 l2 l3 d := by
  have e1 : putF "boxes" (.ref l1) [] = [(("boxes" : Str), V.ref l1)] := rfl
  have e2 : putF "inside" (.ref l2) [(("boxes" : Str), V.ref l1)] = [(("boxes" : Str), V.ref l1), ("inside", .ref l2)] := (put_past (by decide +kernel)).trans rfl
  have e3 : putF "parcels" (.ref l3) [(("boxes" : Str), V.ref l1), ("inside", .ref l2)] = [(("boxes" : Str), V.ref l1), ("inside", .ref l2), ("parcels", .ref l3)] := (put_past (by decide +kernel)).trans (congrArg _ ((put_past (by decide +kernel)).trans rfl))
  have e4 : putF "today" (.int d) [(("boxes" : Str), V.ref l1), ("inside", .ref l2), ("parcels", .ref l3)] = [(("boxes" : Str), V.ref l1), ("inside", .ref l2), ("parcels", .ref l3), ("today", .int d)] := (put_past (by decide +kernel)).trans (congrArg _ ((put_past (by decide +kernel)).trans (congrArg _ ((put_past (by decide +kernel)).trans rfl))))
  rw [e1, e2, e3, e4]; rfl
end
def optV : Option Nat → V
  | none => .non
  | some n => .int n
structure WS where
  w : Addr
  dx : Addr
  l1 : Addr
  l2 : Addr
  l3 : Addr
  sizes : List Int
  inside : List (Option Nat)
  parcels : List (Int × Int)
  today : Int
/-- a wall stands at s.w -/
structure WallAt (K : PySem.W.Frag) (H : Hp) (s : WS) : Prop where
  ob : H s.w = some (.ins (He.ga K "Wall") s.dx (wf s.l1 s.l2 s.l3 s.today))
  bx : H s.l1 = some (.lst (s.sizes.map V.int))
  is : H s.l2 = some (.lst (s.inside.map optV))
  ps : ∃ ts : List Addr, H s.l3 = some (.lst (ts.map V.ref)) ∧ ts.length = s.parcels.length ∧ ∀ (j : Nat) (t : Addr), ts[j]? = some t → H t = some (.tup [.int (s.parcels.getD j (0, 0)).1, .int (s.parcels.getD j (0, 0)).2])
  n12 : s.l1 ≠ s.l2
  n13 : s.l1 ≠ s.l3
  n23 : s.l2 ≠ s.l3
  len : s.inside.length = s.sizes.length
  l8 : s.sizes.length ≤ 8
  pl : s.parcels.length ≤ 1000
  nb : ∀ (j n : Nat), s.inside[j]? = some (some n) → n < s.parcels.length
theorem WallAt.mono {K : PySem.W.Frag} {H H' : Hp} {s : WS} (h : WallAt K H s) (e : Same H H') : WallAt K H' s :=
  ⟨e _ _ h.ob, e _ _ h.bx, e _ _ h.is, let ⟨ts, h1, h2, h3⟩ := h.ps; ⟨ts, e _ _ h1, h2, fun j t q => e _ _ (h3 j t q)⟩, h.n12, h.n13, h.n23, h.len, h.l8, h.pl, h.nb⟩
/-- all but the wall's own changing parts stands as it was -/
def Frm (s : WS) (H H' : Hp) : Prop := ∀ b o, H b = some o → b ≠ s.w → b ≠ s.l2 → b ≠ s.l3 → H' b = some o
/-- lists of sizes that make a wall; parcels' sizes -/
def OkW (ns : List Int) : Prop := 1 ≤ ns.length ∧ ns.length ≤ 8 ∧ ∀ x ∈ ns, 1 ≤ x ∧ x ≤ 9
def OkP (ns : List Int) : Prop := ∀ x ∈ ns, 1 ≤ x ∧ x ≤ 9
end Pw
namespace Pw
theorem putL {f : Str} {v : V} : ∀ {fs : List (Str × V)} {n : Nat}, fs.length ≤ n → (putF f v fs).length ≤ n + 1
  | [], n, h => by show 1 ≤ n + 1; omega
  | (g, x) :: r, n, h => by
    show (if g = f then (g, v) :: r else (g, x) :: putF f v r).length ≤ n + 1
    have h : r.length + 1 ≤ n := h
    by_cases c : g = f
    · rw [if_pos c]; show r.length + 1 ≤ n + 1; omega
    · rw [if_neg c]
      have ih := putL (f := f) (v := v) (fs := r) (n := n - 1) (by omega)
      show (putF f v r).length + 1 ≤ n + 1
      omega
theorem putL0 {f : Str} {v : V} : (putF f v []).length < 1000 := Nat.lt_of_le_of_lt (putL (Nat.le_refl 0)) (by decide)
theorem putL1 {f g : Str} {v u : V} : (putF f v (putF g u [])).length < 1000 := Nat.lt_of_le_of_lt (putL (putL (Nat.le_refl 0))) (by decide)
theorem putL2 {f g k : Str} {v u w : V} : (putF f v (putF g u (putF k w []))).length < 1000 := Nat.lt_of_le_of_lt (putL (putL (putL (Nat.le_refl 0)))) (by decide)
theorem wfL {l1 l2 l3 : Addr} {d : Int} : (wf l1 l2 l3 d).length < 1000 := by show 4 < 1000; decide
end Pw
namespace Pw
section
variable {K : PySem.W.Frag}
theorem kit_ii : PySem.W.kitOne K (.type "int") (.type "int") = some true := kit_ty (by decide +kernel)
theorem kit_ib : PySem.W.kitOne K (.type "int") (.type "bool") = some false := kit_ty (by decide +kernel)
theorem kit_il : PySem.W.kitOne K (.type "int") (.type "list") = some false := kit_ty (by decide +kernel)
theorem kit_is : PySem.W.kitOne K (.type "int") (.type "str") = some false := kit_ty (by decide +kernel)
theorem kit_ll : PySem.W.kitOne K (.type "list") (.type "list") = some true := kit_ty (by decide +kernel)
theorem kit_ls : PySem.W.kitOne K (.type "list") (.type "str") = some false := kit_ty (by decide +kernel)
theorem kit_ss : PySem.W.kitOne K (.type "str") (.type "str") = some true := kit_ty (by decide +kernel)
theorem kit_sl : PySem.W.kitOne K (.type "str") (.type "list") = some false := kit_ty (by decide +kernel)
theorem kit_tt : PySem.W.kitOne K (.type "tuple") (.type "tuple") = some true := kit_ty (by decide +kernel)
theorem kit_ns : PySem.W.kitOne K (.type "NoneType") (.type "str") = some false := kit_ty (by decide +kernel)
theorem kit_nl : PySem.W.kitOne K (.type "NoneType") (.type "list") = some false := kit_ty (by decide +kernel)
end
end Pw
namespace Pw
theorem leI {a b : Int} (h : a ≤ b) : a ≤ b := h
theorem ltI {a b : Int} (h : a < b) : a < b := h
theorem leN {a b : Nat} (h : a ≤ b) : a ≤ b := h
theorem ltN {a b : Nat} (h : a < b) : a < b := h
end Pw
namespace Pw
/-- a word at which the walk stops -/
structure Stop (P : Prop) : Prop where
  out : P
theorem insInt {xs : List Int} {n : Nat} {v : Int} : (xs.map V.int).take n ++ [V.int v] ++ (xs.map V.int).drop n = (xs.take n ++ [v] ++ xs.drop n).map V.int := by
  simp
theorem setInt {xs : List Int} {n : Nat} {v : Int} : (xs.map V.int).set n (V.int v) = (xs.set n v).map V.int := by
  rw [List.map_set]
theorem appInt {xs : List Int} {v : Int} : xs.map V.int ++ [V.int v] = (xs ++ [v]).map V.int := by
  simp
theorem getDlt {xs : List Int} {i : Nat} (hi : i < xs.length) : xs.getD i 0 = xs[i] := by rw [List.getD_eq_getElem?_getD, List.getElem?_eq_getElem hi]; rfl
theorem okGet {xs : List Int} (h : OkP xs) {i : Nat} (hi : i < xs.length) : 1 ≤ xs.getD i 0 ∧ xs.getD i 0 ≤ 9 := by
  rw [getDlt hi]
  exact h _ (List.getElem_mem hi)
theorem okSnoc {xs : List Int} {v : Int} (h : OkP xs) (h1 : 1 ≤ v ∧ v ≤ 9) : OkP (xs ++ [v]) := fun x hx => by
  rcases List.mem_append.mp hx with q | q
  · exact h x q
  · rw [List.mem_singleton.mp q]; exact h1
theorem okIns {xs : List Int} {v : Int} {n : Nat} (h : OkP xs) (h1 : 1 ≤ v ∧ v ≤ 9) : OkP (xs.take n ++ [v] ++ xs.drop n) := fun x hx => by
  rcases List.mem_append.mp hx with q | q
  · rcases List.mem_append.mp q with q | q
    · exact h x (List.mem_of_mem_take q)
    · rw [List.mem_singleton.mp q]; exact h1
  · exact h x (List.mem_of_mem_drop q)
theorem okSet {xs : List Int} {v : Int} {n : Nat} (h : OkP xs) (h1 : 1 ≤ v ∧ v ≤ 9) : OkP (xs.set n v) := fun x hx => by
  rcases List.mem_or_eq_of_mem_set hx with q | q
  · exact h x q
  · rw [q]; exact h1
theorem ixN_of {n : Nat} {i : Int} (h0 : 0 ≤ i) (h1 : i < n) : ixN n i = some i.toNat := by
  unfold ixN; rw [if_pos h0, if_pos h1]
end Pw
namespace Pw
/-! ### a statement, then the rest, with a word between them -/
@[irreducible] def CutG (t u : TS) (D : Ends) (σ : L2.St) (H : Hp) : Prop := Evl.tCut t u D σ H
def tCutP (t u : TS) : TS := fun D σ H => CutG t u D σ H
theorem tCutP_eq (t u : TS) : tCutP t u = Evl.tCut t u := by
  funext D σ H
  unfold tCutP CutG
  rfl
theorem pss_cutP {X : Cx} {st : Stmt} {rest : List Stmt} {t u : TS} (h1 : PS X st t) (h2 : PSs X rest u) : PSs X (st :: rest) (tCutP t u) := by
  rw [tCutP_eq]
  exact Evl.pss_cut h1 h2
theorem cut {t u : TS} {D : Ends} {σ : L2.St} {H : Hp} (Mid : L2.St → Hp → Prop) (h1 : t { D with nx := Mid } σ H) (h2 : ∀ σ' H', Mid σ' H' → u D σ' H') : CutG t u D σ H := by
  unfold CutG
  exact ⟨Mid, h1, h2⟩
end Pw
namespace Pw
theorem wallI {K : PySem.W.Frag} {H : Hp} {s : WS} (h : WallAt K H s) : WallAt K H s := h
end Pw
namespace Pw
theorem ifDT {c A B : Prop} [Decidable c] (h : c) (a : A) : if decide c = true then A else B := ifIs (decide_eq_true h) a
theorem ifDF {c A B : Prop} [Decidable c] (h : ¬ c) (b : B) : if decide c = true then A else B := ifNo (decide_eq_false h) b
theorem ifNT {c A B : Prop} [Decidable c] (h : ¬ c) (a : A) : if (!decide c) = true then A else B := ifIs (by rw [decide_eq_false h]; rfl) a
theorem ifNF {c A B : Prop} [Decidable c] (h : c) (b : B) : if (!decide c) = true then A else B := ifNo (by rw [decide_eq_true h]; rfl) b
end Pw
namespace Pw
theorem intEq {a b : Int} (h : a = b) : V.int a = V.int b := congrArg V.int h
theorem intNe {a b : Int} (h : a ≠ b) : ¬ V.int a = V.int b := fun e => h (V.int.inj e)
end Pw
namespace Pw
/-! ### rules at which the walk stops -/
@[irreducible] def rEqDI (K : PySem.W.Frag) : R2 := rEqD K
@[irreducible] def rNeDI (K : PySem.W.Frag) : R2 := rNeD K
@[irreducible] def rSortPO (K : PySem.W.Frag) : List V → Hp → VK → Prop := rSortedPO K
theorem op_eqDI {X : Cx} (hu : X.A.units + 64 < cLine) : OpR X (compareOp .Eq) (rEqDI X.K) := by unfold rEqDI; exact op_eqD hu
theorem op_neDI {X : Cx} (hu : X.A.units + 64 < cLine) : OpR X (compareOp .NotEq) (rNeDI X.K) := by unfold rNeDI; exact op_neD hu
theorem cr_sortPO {X : Cx} : CallR X (.builtin "sorted") (rSortPO X.K) := by unfold rSortPO; exact cr_sortedPO
end Pw
namespace Pw
/-! ### errors caught: what the classes say -/
def excCB (K : PySem.W.Frag) (D : Addr) : Bool :=
  He.eqO (PySem.W.findIn K (.ref D) "__getattribute__") (some (some (.builtin "BaseException.__getattribute__"))) && (He.eqO (PySem.W.findIn K (.ref D) "__getattr__") (some none) && (decide (PySem.W.subIn K (.ref D) (.type "BaseException") = some true) &&
  (PySem.W.hasDictIn K D && (He.eqO (PySem.W.findIn K (.ref D) "__class__") (some (some (.builtin "object.__class__"))) && (He.eqO (PySem.W.specialIn K (.builtin "object.__class__") "__get__") (some (some (.builtin "getset_descriptor.__get__"))) &&
  (decide (PySem.W.takesIn K (.builtin "object.__class__") = some true) && decide (PySem.W.mroIn K D (.type "object") = some true)))))))
theorem excC_of {K : PySem.W.Frag} {D : Addr} (h : excCB K D = true) : ExcC K D := by
  obtain ⟨h1, h⟩ := He.ba h
  obtain ⟨h2, h⟩ := He.ba h
  obtain ⟨h3, h⟩ := He.ba h
  obtain ⟨h4, h⟩ := He.ba h
  obtain ⟨h5, h⟩ := He.ba h
  obtain ⟨h6, h⟩ := He.ba h
  obtain ⟨h7, h8⟩ := He.ba h
  exact ⟨He.eqO_ok h1, He.eqO_ok h2, of_decide_eq_true h3, h4, He.eqO_ok h5, He.eqO_ok h6, of_decide_eq_true h7, of_decide_eq_true h8⟩
/-- whether an error of the class x is one of the class y -/
def isSub (x y : Str) : Bool := x == y || y == ("WallError" : Str)
def xsB (K : PySem.W.Frag) (l : List Str) : Bool := l.all fun x => excCB K (He.ga K x) && (decide (PySem.W.kitOne K (.ref (He.ga K x)) (.type "ValueError") = some true) &&
  l.all fun y => decide (PySem.W.kitOne K (.ref (He.ga K x)) (.ref (He.ga K y)) = some (isSub x y)) && decide (PySem.W.exmOne K (.ref (He.ga K x)) (.ref (He.ga K y)) = some (isSub x y)))
structure XS (K : PySem.W.Frag) (l : List Str) : Prop where
  b : xsB K l = true
namespace XS
variable {K : PySem.W.Frag} {l m : List Str}
theorem one (h : XS K l) {x : Str} (hx : x ∈ l) : ExcC K (He.ga K x) ∧ PySem.W.kitOne K (.ref (He.ga K x)) (.type "ValueError") = some true := by
  have q := List.all_eq_true.mp h.b x hx
  obtain ⟨h1, h2⟩ := He.ba q
  obtain ⟨h2, _⟩ := He.ba h2
  exact ⟨excC_of h1, of_decide_eq_true h2⟩
theorem two (h : XS K l) {x y : Str} (hx : x ∈ l) (hy : y ∈ l) : PySem.W.kitOne K (.ref (He.ga K x)) (.ref (He.ga K y)) = some (isSub x y) ∧ PySem.W.exmOne K (.ref (He.ga K x)) (.ref (He.ga K y)) = some (isSub x y) := by
  have q := List.all_eq_true.mp h.b x hx
  obtain ⟨_, q⟩ := He.ba q
  obtain ⟨_, q⟩ := He.ba q
  have q := List.all_eq_true.mp q y hy
  obtain ⟨h1, h2⟩ := He.ba q
  exact ⟨of_decide_eq_true h1, of_decide_eq_true h2⟩
theorem c (h : XS K l) {x : Str} (hx : x ∈ l) : ExcC K (He.ga K x) := (h.one hx).1
theorem v (h : XS K l) {x : Str} (hx : x ∈ l) : PySem.W.kitOne K (.ref (He.ga K x)) (.type "ValueError") = some true := (h.one hx).2
theorem kit (h : XS K l) {x y : Str} {b : Bool} (hx : x ∈ l) (hy : y ∈ l) (e : isSub x y = b) : PySem.W.kitOne K (.ref (He.ga K x)) (.ref (He.ga K y)) = some b := by rw [← e]; exact (h.two hx hy).1
theorem exm (h : XS K l) {x y : Str} {b : Bool} (hx : x ∈ l) (hy : y ∈ l) (e : isSub x y = b) : PySem.W.exmOne K (.ref (He.ga K x)) (.ref (He.ga K y)) = some b := by rw [← e]; exact (h.two hx hy).2
end XS
/-- isinstance(e, c), e the error that the suite holds, of the class cls -/
def rIsX (K : PySem.W.Frag) (cls : Value) (d : Option Addr) (a : Addr) : List V → Hp → VK → Prop := fun xs H Q => ∃ (D : Addr) (c : V) (cv : Value) (b : Bool), cls = .ref D ∧ d = none ∧ ExcC K D ∧ xs = [.ref a, c] ∧ (∀ u, RelV c u → u = cv) ∧ PySem.W.kitOne K (.ref D) cv = some b ∧ Q (.bl b) H
theorem call_isX {X : Cx} {a : Addr} {cls : Value} {d : Option Addr} {oe : Obj} {pn : List (Addr × Obj)} (hz : Zc cls d oe) (hf : ∃ vs, oe.data = .fields vs) : CallR (X.suite a ((a, oe) :: pn)) (.builtin "isinstance") (rIsX X.K cls d a) := by
  intro pins s σ H xs us Q I r h
  obtain ⟨D, c, cv, b, rfl, rfl, C, h⟩ := h
  exact call_isE C hz hf pins s σ H xs us Q I r ⟨c, cv, b, h⟩
def tTryAs (K : PySem.W.Frag) (c : Value) (i : Nat) (tb : WX → TS) (ts : Addr → Value → Option Addr → TS) (Wout : WX) : TS := fun D σ H => tb (wAs K c i ts Wout D) D σ H
def tTryOnly (K : PySem.W.Frag) (c : Value) (tb : WX → TS) (ts : Addr → Value → Option Addr → TS) (Wout : WX) : TS := fun D σ H => tb (wOnly K c ts Wout D) D σ H
def tTryMany (K : PySem.W.Frag) (l : List (Value × (Addr → Value → Option Addr → TS))) (tb : WX → TS) (Wout : WX) : TS := fun D σ H => tb (wMany K Wout D l) D σ H
abbrev wNone : WX := fun _ _ _ _ => False
abbrev wE (E : XK) : WX := fun cls d _ H => E cls d H
/-- C(e, ..) within a try -/
def tMakeS (C : Addr) (sp : Sp) (E : L2.St → XK) (t : TA) : TE := fun σ H Q => t σ H fun vs H1 => ∀ x dx, H1 x = none → H1 dx = none → dx ≠ x → sp (.ref x :: vs) (upd (upd H1 dx (.own x)) x (.ins C dx [])) (fun v H2 => v = .non ∧ Q (.ref x) H2) (E σ)
end Pw
namespace Pw
section
variable {X : Cx} {CX : CXT} {lv : Nat} {fI C : Addr} {gd : FuncData} {prs : List Str} {pr : Sp} {E : XK}
theorem makeAt {pins : List (Addr × Obj)} {σ : L2.St} {H : Hp} {st : Shared} {Q : VK} {us : List Value} {vs : List V} (M : Mk X.K C fI)
    (F : FnOk X.prog X.w X.K X.mg X.base CX lv fI gd prs pr) (room : Room (lv + 1) X.A) (bb : Binds X.K gd prs [])
    (pass : PassesAt CX X σ E) (I : Inv X pins σ H st) (rv : Vals vs us)
    (want : ∀ x dx, H x = none → H dx = none → dx ≠ x → pr (.ref x :: vs) (upd (upd H dx (.own x)) x (.ins C dx [])) (fun v H2 => v = .non ∧ Q (.ref x) H2) E) :
    wpAny (model X.prog X.w) X.A (call (.ref C) us) (EP X pins σ Q) X.xe st := by
  have want1 := want (st.heap.objs.size + 1) st.heap.objs.size (I.hok.fresh (Nat.le_succ _)) (I.hok.fresh (Nat.le_refl _))
    (Nat.ne_of_lt (Nat.lt_succ_self _))
  have J := Inv.made (C := C) I
  have rv1 : Vals (V.ref (st.heap.objs.size + 1) :: vs) (Value.ref (st.heap.objs.size + 1) :: us) := .cons rfl rv
  have len1 : (Value.ref (st.heap.objs.size + 1) :: us).length = prs.length :=
    rv1.length.symm.trans (F.len _ _ _ _ want1)
  have bb1 := bb _ (Value.ref (st.heap.objs.size + 1) :: us) J.kIn (by rw [List.append_nil]; exact len1)
  rw [List.append_nil] at bb1
  refine wpAny_call (make_map (f := fI) I.kIn M.makes M.init (beq_iff_eq.mp M.fn) ?_)
  refine codeAny_mono (F.run _ X.stack _ _ ⟨Value.ref (st.heap.objs.size + 1) :: us, []⟩ (Value.ref (st.heap.objs.size + 1) :: us) _ _ E
    (room.make C us []) (J.env0.make C us []) bb1 rv1 want1) fun res s2 got => ?_
  cases res with
  | error e => exact pass pins _ _ e s2 J got
  | ok fl =>
    cases fl with
    | ret u =>
      obtain ⟨v, H2, J2, ru, ev, q2⟩ := J.after got
      subst ev
      exact ⟨ru, ⟨V.ref (st.heap.objs.size + 1), H2, J2, rfl, q2⟩⟩
    | next => exact got.elim
    | brk => exact got.elim
    | cont => exact got.elim
theorem pe_makeS {EE : L2.St → XK} {x : Str} {p pos : Pos} {e : Expr} {es : List Expr} {t : TA} (M : Mk X.K C fI)
    (F : FnOk X.prog X.w X.K X.mg X.base CX lv fI gd prs pr) (room : Room (lv + 1) X.A) (hg : Gl X x) (hm : X.mg x = some (.ref C)) (bb : Binds X.K gd prs [])
    (pass : ∀ σ, PassesAt CX X σ (EE σ)) (ha : PA X (e :: es) t) (hdb : (x == ("__debug__" : Str)) = false := by decide)
    (he : starEach (e :: es) X.env = (false, eval e X.env) :: starEach es X.env := by rfl)
    (hpl : (backTo pos (starEach es X.env)).any (·.1) = false := by rfl) :
    PE X (.Call (.Name x p) (e :: es) [] pos) (tMakeS C pr EE t) := by
  refine ⟨fun pins s σ H Q I h => wpAny_Call_Name_kw (ld_glob I hg hm ?_ hdb)⟩
  refine PySem.W.callWith_K (h₀ := X.base) I.ok.mod.kin M.kp ?_ he hpl
  exact thn (ha.run pos pins s σ H _ I h) fun us s1 ⟨vs, H1, I1, r, q⟩ => ⟨I1.kIn, makeAt M F room bb (pass σ) I1 r q⟩
/-- o.m() within a try -/
theorem pe_methS0 {m : Str} {pos apos : Pos} {o : Expr} {ta : TE} {f : Addr} {fd : FuncData} {ps : List Str} {sp : Sp} {EE : L2.St → XK} {pl : Sem Bool} (he : PE X o ta) (c : Cls X.K C) (hm : Meth X.K C m f)
    (F : FnOk X.prog X.w X.K X.mg X.base CX lv f fd ps sp) (hr : Room lv X.A) (hb : Binds X.K fd ps []) (hx : ∀ σ, PassesAt CX X σ (EE σ))
    (ht : eval (.Call (.Attribute o m apos) [] [] pos) X.env = (do
      let ov ← eval o X.env
      standAt apos.atName
      let (f, first) ← holding [ov] (getMethod ov m pl)
      callWith pos f first (backTo pos (starEach [] X.env)) (backToKw pos (keywordEach [] X.env))) := by rfl) :
    PE X (.Call (.Attribute o m apos) [] [] pos) (tMethS C m sp EE ta tNil) := by
  refine ⟨fun pins s σ H Q I h => ?_⟩
  refine PySem.W.methodCall_KW (pl := pl) (thn (he.run pins s σ H _ I h) fun u s1 ⟨x, H1, I1, rx, a, dx, fs, ex, ea, l, q⟩ => ?_) ht
  subst ex
  obtain rfl : u = Value.ref a := rx
  refine getmeth_ok I1 ea c hm l ?_
  exact PySem.W.callWith_K0 (first := [.ref a]) I1.kIn hm.kp (run_fnS (us := [.ref a]) (vs := [.ref a]) F hr hb (hx σ) I1 (.cons rfl .nil) q)
end
end Pw
namespace Pw
theorem relRef {a : Addr} : ∀ u, RelV (V.ref a) u → u = Value.ref a := fun _ h => h
theorem relTy {t : String} : ∀ u, RelV (V.ty t) u → u = Value.type t := fun _ h => h
theorem qRefl {Q : VK} {H : Hp} {x : V} (h : Q (.bl true) H) : Q (.bl (decide (x = x))) H := by rw [decide_eq_true rfl]; exact h
theorem qDec {Q : VK} {H : Hp} {p : Prop} [Decidable p] (hp : p) (h : Q (.bl true) H) : Q (.bl (decide p)) H := by rw [decide_eq_true hp]; exact h
theorem inAll {l n : List Str} (h : (n.all fun x => l.contains x) = true) {x : Str} (hx : x ∈ n) : x ∈ l := List.contains_iff_mem.mp (List.all_eq_true.mp h x hx)
theorem listInt {H : Hp} {p : Addr} {ns : List Nat} (h : H p = some (.lst (ns.map fun i : Nat => V.int (i : Int)))) : H p = some (.lst ((ns.map fun i : Nat => (i : Int)).map V.int)) := by rw [h, List.map_map]; rfl
theorem repOpt {ns : List Int} : ns.map (fun _ => V.non) = (List.replicate ns.length (none : Option Nat)).map optV := by
  rw [List.map_replicate]
  induction ns with
  | nil => rfl
  | cons x r ih => rw [List.map_cons, List.length_cons, List.replicate_succ, ih]; rfl
theorem freeLen (l : List (Option Nat)) : ((List.range l.length).filter fun i => (l.getD i none).isNone).length ≤ l.length := by
  have h := List.length_filter_le (fun i => (l.getD i none).isNone) (List.range l.length)
  rw [List.length_range] at h; exact h
end Pw
namespace Pw
theorem intNon {i : Int} : ¬ V.int i = V.non := fun h => by cases h
theorem strNe {a b : Str} (h : a ≠ b) : ¬ V.str a = V.str b := fun e => h (V.str.inj e)
end Pw
namespace Pw
abbrev rInN (K : PySem.W.Frag) : R2 := fun x y H Q => ∃ p xs, y = .ref p ∧ (SqL K H p xs ∨ SqT K H p xs) ∧ flatV x = true ∧ xs.all flatV = true ∧ Q (.bl (!inV x xs)) H
theorem op_notInN {X : Cx} : OpR X (compareOp .NotIn) (rInN X.K) := op_notIn_seq
end Pw
namespace Pw
theorem cmulL {i j : Int} (h : -(2 ^ 64) < i ∧ i < 2 ^ 64) : CMul i j := .inl h
theorem cmulR {i j : Int} (h : -(2 ^ 64) < j ∧ j < 2 ^ 64) : CMul i j := .inr h
theorem cpow109 : CPow 10 9 := ⟨by decide, by decide, by decide⟩
end Pw
namespace Pw
theorem cxN_to {P : Program} {w : World} {outer : List Env} {H : Hp} {s s' : Shared} {E : XK} {u : Value} (c : L2N.CX P w outer H s E u s') : L2.CX P w outer H s E u s' := by
  obtain ⟨a, B, H', cls, d, e, fl, r⟩ := c
  exact ⟨a, B, H', cls, d, e, L2H.flyingZ_imp (fun _ z => z.zc) fl, r⟩
theorem passesN {X : Cx} {E : XK} (h : Passes (L2.CX X.prog X.w) X E) : Passes (L2N.CX X.prog X.w) X E := fun pins σ H s e s' I c => h pins σ H s e s' I (cxN_to c)
theorem passAtN {X : Cx} {W : WX} (tk : L2.Takes X W) (σ : L2.St) : PassesAt (L2N.CX X.prog X.w) X σ (WE W σ) := fun pins H s e s' I c => L2.passAt tk σ pins H s e s' I (cxN_to c)
end Pw
namespace Pw
theorem whileI {tc : TT} {tb : TS} {D : Ends} {σ : L2.St} {H : Hp} (Pv : Nat → L2.St → Hp → Prop) (h0 : ∃ m, Pv m σ H)
    (hs : ∀ m σ H, Pv m σ H → tc σ H fun b H1 => if b = true then ∃ N : L2.St → Hp → Prop, (∀ σ' H', N σ' H' → ∃ m', m' < m ∧ Pv m' σ' H') ∧ tb { D with nx := N, ct := N, bk := D.nx } σ H1 else D.nx σ H1) : WhileG tc tb D σ H := by
  unfold WhileG
  exact ⟨Pv, h0, hs⟩
end Pw
namespace Pw
abbrev rInY (K : PySem.W.Frag) : R2 := fun x y H Q => ∃ p xs, y = .ref p ∧ (SqL K H p xs ∨ SqT K H p xs) ∧ flatV x = true ∧ xs.all flatV = true ∧ Q (.bl (inV x xs)) H
theorem op_inY {X : Cx} : OpR X (compareOp .In) (rInY X.K) := op_in_seq
end Pw
local macro_rules | `(tactic| walk_at "arith") => `(tactic| first | omega | (simp only [List.length_map, List.length_append, List.length_cons, List.length_nil, List.length_take, List.length_replicate, List.length_range, Int.zero_add, Int.toNat_natCast] at *; omega))
local macro_rules | `(tactic| walk_at "same") => `(tactic| first
  | assumption
  | exact Same.refl _
  | (refine Pw.sameNew ?_ ?_; (walk_at "same"); (walk_at "free"))
  | (refine Pw.sameMut ?_ ?_; (walk_at "same"); (walk_at "free"))
  | (refine Same.trans (H1 := ?mid) ?s1 ?s2; (case s2 => assumption); (case s1 => walk_at "same")))
local macro_rules | `(tactic| walk_at "free") => `(tactic| first
  | assumption
  | (refine Pw.updFree (p := ?pp) (o := ?oo) ?f; (case f => assumption))
  | (refine Same.free (H' := ?mid) ?s ?f; (case f => assumption); (case s => walk_at "same")))
local macro_rules | `(tactic| walk_at "ne") => `(tactic| first
  | assumption
  | (apply Ne.symm; assumption)
  | (refine ne_of_none (H := ?hh) (o := ?oo) ?h1 ?h2; (case h2 => assumption); (case h1 => walk_at "heap"))
  | (apply Ne.symm; refine ne_of_none (H := ?hh) ?h1 ?h2; (case h2 => assumption); (case h1 => walk_at "heap")))
local macro_rules | `(tactic| walk_at "heap") => `(tactic| first
  | assumption
  | exact upd_same
  | (refine Pw.updOld (o := ?oo) ?h ?f; (case h => walk_at "heap"); (case f => walk_at "free"))
  | (refine Pw.updNe (o := ?oo) ?h ?n; (case h => walk_at "heap"); (case n => walk_at "ne"))
  | (refine Pw.sameGet (H := ?hh) (o := ?oo) ?s ?h; (case s => assumption); (case h => walk_at "heap")))
local macro_rules | `(tactic| walk_at "sq") => `(tactic| first
  | assumption
  | (refine Same.seq (H := ?hh) (xs := ?xx) ?s ?h; (case h => assumption); (case s => walk_at "same"))
  | (refine SqL.of (xs := ?xx) ?h; (case h => walk_at "heap"))
  | (refine SqT.of (xs := ?xx) ?h; (case h => walk_at "heap")))
local macro_rules | `(tactic| walk_at "wall") => `(tactic| first
  | assumption
  | (refine Pw.WallAt.mono (H := ?hh) ?h ?s; (case h => assumption); (case s => walk_at "same")))
local macro_rules | `(tactic| walk_at "leaf") => `(tactic| first
  | with_reducible rfl
  | with_reducible exact Pw.kit_ii
  | with_reducible exact Pw.relRef
  | with_reducible exact Pw.relTy
  | with_reducible exact Pw.kit_ib
  | with_reducible exact Pw.kit_ll
  | with_reducible exact Pw.kit_tt
  | with_reducible exact Pw.kit_ss
  | with_reducible exact Pw.kit_il
  | with_reducible exact Pw.kit_is
  | with_reducible exact Pw.kit_ls
  | with_reducible exact Pw.kit_sl
  | with_reducible exact Pw.kit_ns
  | with_reducible exact Pw.kit_nl
  | with_reducible assumption
  | (with_reducible refine Pw.leI ?_; (first | walk_at "arith" | exact Pw.szLe (by walk_at "arith") | exact Pw.szLt (by walk_at "arith") | decide))
  | (with_reducible refine Pw.ltI ?_; (first | walk_at "arith" | exact Pw.szLe (by walk_at "arith") | exact Pw.szLt (by walk_at "arith") | decide))
  | (with_reducible refine Pw.leN ?_; (first | walk_at "arith" | exact Pw.szLe (by walk_at "arith") | exact Pw.szLt (by walk_at "arith") | decide))
  | (with_reducible refine Pw.ltN ?_; (first | walk_at "arith" | exact Pw.szLe (by walk_at "arith") | exact Pw.szLt (by walk_at "arith") | decide))
  | rfl
  | assumption
  | with_reducible exact Pw.wf_boxes
  | with_reducible exact Pw.wf_inside
  | with_reducible exact Pw.wf_parcels
  | with_reducible exact Pw.wf_today
  | with_reducible exact Pw.wf_sizes
  | with_reducible exact Pw.wf_held
  | with_reducible exact Pw.wf_day
  | with_reducible exact Pw.wf_free
  | with_reducible exact Pw.wf_see
  | with_reducible exact Pw.wf_size_of
  | with_reducible exact Pw.wf_left
  | with_reducible exact Pw.wf_come
  | with_reducible exact Pw.wf_fetch
  | with_reducible exact Pw.wf_night
  | with_reducible exact Pw.wf_move
  | exact ClsV.ty _
  | exact ClsV.own _
  | with_reducible exact TyX.base (TyOf.int _)
  | with_reducible exact TyX.base (TyOf.bl _)
  | with_reducible exact TyX.base (TyOf.str _)
  | with_reducible exact TyX.base TyOf.non
  | (refine TyX.base (TyOf.lst (xs := ?xx) ?q); (case q => walk_at "heap"))
  | (refine TyX.base (TyOf.tup (xs := ?xx) ?q); (case q => walk_at "heap"))
  | with_reducible exact Pw.putL0
  | with_reducible exact Pw.putL1
  | with_reducible exact Pw.putL2
  | with_reducible exact Pw.wfL
  | walk_at "sq"
  | walk_at "heap"
  | walk_at "arith"
  | (with_reducible refine Pw.wallI ?h; (case h => walk_at "wall"))
  | (refine Or.inl ?q; (case q => walk_at "sq"))
  | (refine Or.inr ?q; (case q => walk_at "sq"))
  | (refine Exists.intro ?ww ?q; (case q => walk_at "sq"))
  | (refine Or.inl (And.intro rfl (Exists.intro ?ww ?q)); (case q => walk_at "sq"))
  | (refine Or.inl (And.intro ?r (Exists.intro ?ww ?q)); (case r => rfl); (case q => walk_at "sq"))
  | exact Pw.atInt (by walk_at "arith") (by walk_at "arith")
  | with_reducible exact Pw.cpow109
  | (with_reducible refine Pw.cmulL ?_; decide)
  | (with_reducible refine Pw.cmulR ?_; decide)
  | decide)
local macro_rules | `(tactic| walk_at "sure") => `(tactic| first | with_reducible assumption | with_reducible rfl | with_reducible exact Pw.intNon | (with_reducible refine Pw.strNe ?_; decide +kernel) | (with_reducible refine Pw.intEq ?_; walk_at "arith") | (with_reducible refine Pw.intNe ?_; walk_at "arith") | walk_at "arith")
local macro_rules | `(tactic| walk_at "if") => `(tactic| first
  | (with_reducible refine Pw.ifDT ?c ?_; (case c => walk_at "sure"))
  | (with_reducible refine Pw.ifDF ?c ?_; (case c => walk_at "sure"))
  | (with_reducible refine Pw.ifNT ?c ?_; (case c => walk_at "sure"))
  | (with_reducible refine Pw.ifNF ?c ?_; (case c => walk_at "sure")))
local macro_rules | `(tactic| walk_at "go") => `(tactic| repeat (first | apply Exists.intro | (refine And.intro ?l ?_; (case l => walk_at "leaf")) | walk_at "if"))
namespace Pw
/-- what the law draws -/
def drawn (ns : List Int) (k many : Int) : Int :=
  let cell := if 0 < (ns.length : Int) then ns.getD (k.fmod ns.length).toNat 0 else 7
  let s1 := (cell * 48271 + (k + 1) * 7919 + ns.length) % 2147483647
  let s2 := (s1 * s1 + k * 16807 + 11) % 2147483647
  (s2 * 48271 % 2147483647 / 16).fmod many
theorem drawn_in (ns : List Int) (k : Int) {many : Int} (h : 0 < many) : 0 ≤ drawn ns k many ∧ drawn ns k many < many := by
  unfold drawn
  exact ⟨Int.fmod_nonneg_of_pos _ h, Int.fmod_lt_of_pos _ h⟩
def sp_law_drawn (K : PySem.W.Frag) : Sp := fun vs H Q _ => ∃ (a : Addr) (ns : List Int) (k many : Int), vs = [.ref a, .int k, .int many] ∧ SqL K H a (ns.map V.int) ∧ ns.length ≤ 63 ∧ 0 < many ∧
  (0 ≤ drawn ns k many → drawn ns k many < many → Q (.int (drawn ns k many)) H)
theorem len_law_drawn {K : PySem.W.Frag} : ∀ vs H Q E, sp_law_drawn K vs H Q E → vs.length = 3 := by
  rintro vs H Q E ⟨_, _, _, _, rfl, _⟩
  rfl
def t_law_drawn (K : PySem.W.Frag) (E : XK) : TS :=
  tSeq (tAsg (tC (.int 7)) (gName 3))
    (tSeq (tIfS (tTest (tOp rGt (tCB (rLenSeq K) (tCons (tVar 0) tNil)) (tC (.int 0)))) (tAsg (tOp (rIxL K) (tVar 0) (tOp rModN (tVar 1) (tCB (rLenSeq K) (tCons (tVar 0) tNil)))) (gName 3)) (tNext))
    (tSeq (tAsg (tOp rModP (tOp rAddI (tOp rAddI (tOp rMulI (tVar 3) (tC (.int 48271))) (tOp rMulI (tOp rAddI (tVar 1) (tC (.int 1))) (tC (.int 7919)))) (tCB (rLenSeq K) (tCons (tVar 0) tNil))) (tC (.int 2147483647))) (gName 4))
    (tSeq (tAsg (tOp rModP (tOp rAddI (tOp rAddI (tOp rMulI (tVar 4) (tVar 4)) (tOp rMulI (tVar 1) (tC (.int 16807)))) (tC (.int 11))) (tC (.int 2147483647))) (gName 4))
    (tRet (tOp rModN (tOp rDivP (tOp rModP (tOp rMulI (tVar 4) (tC (.int 48271))) (tC (.int 2147483647))) (tC (.int 16))) (tVar 2))))))
theorem pure_law_drawn {K : PySem.W.Frag} (vs : List V) (H : Hp) (Q : VK) (E : XK) (h : sp_law_drawn K vs H Q E) : t_law_drawn K E { nx := fun _ H' => Q .non H', rt := Q } (start ["script", "k", "many", "cell", "stir"] vs) H := by
  obtain ⟨a, ns, k, many, rfl, hS, hl, hm, q⟩ := h
  have hd := drawn_in ns k hm
  have q := q hd.1 hd.2
  have fin : ∀ cell : Int, cell = (if 0 < (ns.length : Int) then ns.getD (k.fmod ns.length).toNat 0 else 7) → ∀ σ : L2.St, σ = [some (.ref a), some (.int k), some (.int many), some (.int cell), none] →
      (tSeq (tAsg (tOp rModP (tOp rAddI (tOp rAddI (tOp rMulI (tVar 3) (tC (.int 48271))) (tOp rMulI (tOp rAddI (tVar 1) (tC (.int 1))) (tC (.int 7919)))) (tCB (rLenSeq K) (tCons (tVar 0) tNil))) (tC (.int 2147483647))) (gName 4))
    (tSeq (tAsg (tOp rModP (tOp rAddI (tOp rAddI (tOp rMulI (tVar 4) (tVar 4)) (tOp rMulI (tVar 1) (tC (.int 16807)))) (tC (.int 11))) (tC (.int 2147483647))) (gName 4))
    (tRet (tOp rModN (tOp rDivP (tOp rModP (tOp rMulI (tVar 4) (tC (.int 48271))) (tC (.int 2147483647))) (tC (.int 16))) (tVar 2))))) { nx := fun _ H' => Q .non H', rt := Q } σ H := by
    intro cell ec σ es
    subst es
    have b1 := Int.emod_nonneg (cell * 48271 + (k + 1) * 7919 + ((ns.map V.int).length : Int)) (show (2147483647 : Int) ≠ 0 by decide)
    have b2 := Int.emod_lt_of_pos (cell * 48271 + (k + 1) * 7919 + ((ns.map V.int).length : Int)) (show (0 : Int) < 2147483647 by decide)
    walk_at "go"
    refine ⟨.inl ⟨by omega, by omega⟩, ?_⟩
    walk_at "go"
    refine ⟨⟨by decide, by decide⟩, ?_⟩
    walk_at "go"
    have e : drawn ns k many = ((((cell * 48271 + (k + 1) * 7919 + ns.length) % 2147483647 * ((cell * 48271 + (k + 1) * 7919 + ns.length) % 2147483647) + k * 16807 + 11) % 2147483647) * 48271 % 2147483647 / 16).fmod many := by
      unfold drawn; rw [← ec]
    rw [e] at q
    rw [List.length_map]
    exact q
  unfold t_law_drawn
  walk_at "go"
  refine ifD (fun h1 => ?_) (fun h1 => ?_)
  · walk_at "go"
    rw [List.length_map] at h1 ⊢
    have f1 := Int.fmod_nonneg_of_pos k h1
    have f2 := Int.fmod_lt_of_pos k h1
    refine ⟨atInt f1 f2, ?_⟩
    refine fin _ ?_ _ rfl
    rw [if_pos h1]
  · refine fin 7 ?_ _ rfl
    rw [List.length_map] at h1
    rw [if_neg h1]
end Pw
namespace Pw
def sp_law_sizes_by (K : PySem.W.Frag) : Sp := fun vs H Q _ => ∃ (a : Addr) (ns : List Int) (b : Int), vs = [.ref a, .int b] ∧ SqL K H a (ns.map V.int) ∧ ns.length ≤ 63 ∧ ∀ sizes : List Int, OkW sizes → RetNew H Q (sizes.map V.int)
theorem len_law_sizes_by {K : PySem.W.Frag} : ∀ vs H Q E, sp_law_sizes_by K vs H Q E → vs.length = 2 := by
  rintro vs H Q E ⟨_, _, _, rfl, _⟩
  rfl
def t_law_sizes_by (K : PySem.W.Frag) (E : XK) : TS :=
  tSeq (tAsg (tOp rAddI (tC (.int 1)) (tCall (sp_law_drawn K) [] E0 (tCons (tVar 0) (tCons (tVar 1) (tCons (tC (.int 8)) tNil))))) (gName 2))
    (tSeq (tAsg (tOp (rIxL K) (tLst (tCons (tC (.int 3)) (tCons (tC (.int 5)) (tCons (tC (.int 9)) tNil)))) (tCall (sp_law_drawn K) [] E0 (tCons (tVar 0) (tCons (tOp rAddI (tVar 1) (tC (.int 1))) (tCons (tC (.int 3)) tNil))))) (gName 3))
    (tRet (tLc (iRng1 (tCons (tVar 2) tNil)) (gName 4) tYes (tOp rAddI (tC (.int 1)) (tCall (sp_law_drawn K) [] E0 (tCons (tVar 0) (tCons (tOp rAddI (tOp rAddI (tVar 1) (tC (.int 2))) (tVar 4)) (tCons (tVar 3) tNil))))) [4])))
theorem pure_law_sizes_by {K : PySem.W.Frag} (vs : List V) (H : Hp) (Q : VK) (E : XK) (h : sp_law_sizes_by K vs H Q E) : t_law_sizes_by K E { nx := fun _ H' => Q .non H', rt := Q } (start ["script", "base", "many", "top", "k"] vs) H := by
  obtain ⟨a, ns, b, rfl, hS, hl, k⟩ := h
  unfold t_law_sizes_by
  walk_at "go"
  intro d0 d1
  walk_at "go"
  intro p hp
  walk_at "go"
  intro e0 e1
  walk_at "go"
  refine ⟨atInt (xs := [3, 5, 9]) e0 e1, ?_⟩
  have ht : 1 ≤ ([3, 5, 9] : List Int).getD (drawn ns (b + 1) 3).toNat 0 ∧ ([3, 5, 9] : List Int).getD (drawn ns (b + 1) 3).toNat 0 ≤ (9 : Int) := by
    have q : (drawn ns (b + 1) 3).toNat = 0 ∨ (drawn ns (b + 1) 3).toNat = 1 ∨ (drawn ns (b + 1) 3).toNat = 2 := by omega
    rcases q with q | q | q <;> rw [q] <;> decide
  generalize ([3, 5, 9] : List Int).getD (drawn ns (b + 1) 3).toNat 0 = top at ht ⊢
  generalize drawn ns b 8 = many at d0 d1 ⊢
  walk_at "go"
  intro D hD
  have hS1 : SqL K (upd H p (.lst [V.int 3, V.int 5, V.int 9])) a (ns.map V.int) := (sameNew (Same.refl _) hp).seq hS
  refine lcRng (n := (1 + many).toNat) (fun _ => true) (fun i : Nat => V.int (1 + drawn ns (b + 2 + (0 + (i : Int))) top)) hD (by omega) (fun _ => rfl) (fun i H' hi s' TT k' => ?_) (fun i H' hi _ s' Qv k' => ?_) (fun H' s' hD' => ?_)
  · exact k' _ (Same.refl _)
  · walk_at "go"
    intro d2 d3
    walk_at "go"
    exact k' _ (Same.refl _)
  · rw [filterAll] at hD'
    refine k ((List.range (1 + many).toNat).map fun i : Nat => 1 + drawn ns (b + 2 + (0 + (i : Int))) top) ⟨by simp; omega, by simp; omega, ?_⟩ _ D ((sameNew (Same.refl _) hp).trans s') (updFree hD) ?_
    · intro x hx
      obtain ⟨i, _, rfl⟩ := List.mem_map.mp hx
      have := drawn_in ns (b + 2 + (0 + (i : Int))) (many := top) (by omega)
      omega
    · rw [hD', List.map_map]; rfl
end Pw
namespace Pw
/-! ### data that is compared as a whole -/
structure PlD (n : Nat) (d : PyData) : Prop where
  c : d.canLay0 = true
  dp : d.depth ≤ n
theorem plInt (i : Int) : PlD 0 (.int i) := ⟨by simp [PyData.canLay0], by simp [PyData.depth]⟩
theorem plBool (b : Bool) : PlD 0 (.bool b) := ⟨by simp [PyData.canLay0], by simp [PyData.depth]⟩
theorem plStr (x : Str) (h : PyData.strOk x = true) : PlD 0 (.str x) := ⟨by simp [PyData.canLay0, h], by simp [PyData.depth]⟩
theorem plNone : PlD 0 .none := ⟨by simp [PyData.canLay0], by simp [PyData.depth]⟩
theorem PlD.up {n m : Nat} {d : PyData} (h : PlD n d) (hm : n ≤ m) : PlD m d := ⟨h.c, Nat.le_trans h.dp hm⟩
theorem plAll {n : Nat} : ∀ {ds : List PyData}, (∀ d ∈ ds, PlD n d) → PyData.canLayAll0 ds = true ∧ PyData.depthAll ds ≤ n
  | [], _ => ⟨by simp [PyData.canLayAll0], by simp [PyData.depthAll]⟩
  | d :: r, h => by
    have a := h d List.mem_cons_self
    have b := plAll (ds := r) fun x hx => h x (List.mem_cons_of_mem _ hx)
    refine ⟨?_, ?_⟩
    · simp only [PyData.canLayAll0, a.c, b.1, Bool.and_self]
    · have a2 := a.dp
      simp only [PyData.depthAll]
      omega
theorem plList {n : Nat} {ds : List PyData} (h : ∀ d ∈ ds, PlD n d) : PlD (n + 1) (.list ds) := by
  have q := plAll h
  exact ⟨by simp only [PyData.canLay0]; exact q.1, by simp only [PyData.depth]; omega⟩
theorem plTup {n : Nat} {ds : List PyData} (h : ∀ d ∈ ds, PlD n d) : PlD (n + 1) (.tuple ds) := by
  have q := plAll h
  exact ⟨by simp only [PyData.canLay0]; exact q.1, by simp only [PyData.depth]; omega⟩
theorem PlD.ok {n : Nat} {d : PyData} (h : PlD n d) (hn : n ≤ 64) : SeqAt.shaped d = true := by
  unfold SeqAt.shaped
  rw [h.c, decide_eq_true (Nat.le_trans h.dp hn)]; rfl
theorem PlD.eq {n : Nat} {d : PyData} (h : PlD n d) : PyData.eqv d d = true := SeqAt.eqv_refl d h.c
theorem dpAllMap {α : Type} {K : PySem.W.Frag} {H : Hp} {f : α → V} {g : α → PyData} (h : ∀ x, Dp K H (f x) (g x)) : ∀ xs : List α, DpAll K H (xs.map f) (xs.map g)
  | [] => .nil
  | x :: r => .cons (h x) (dpAllMap h r)
theorem dpInts {K : PySem.W.Frag} {H : Hp} {a : Addr} {ns : List Int} (h : SqL K H a (ns.map V.int)) : Dp K H (.ref a) (.list (ns.map PyData.int)) := .lst h (dpAllMap (fun x => .int x) ns)
theorem plInts (ns : List Int) : PlD 1 (.list (ns.map PyData.int)) := plList fun d hd => by
  obtain ⟨x, _, rfl⟩ := List.mem_map.mp hd
  exact plInt x
theorem plMem1 {n : Nat} {a : PyData} (h : PlD n a) : ∀ d ∈ [a], PlD n d := fun d hd => by
  rw [List.mem_singleton.mp hd]; exact h
theorem plCons {n : Nat} {a : PyData} {r : List PyData} (h : PlD n a) (h2 : ∀ d ∈ r, PlD n d) : ∀ d ∈ a :: r, PlD n d := fun d hd => by
  rcases List.mem_cons.mp hd with e | e
  · rw [e]; exact h
  · exact h2 d e
theorem plNil {n : Nat} : ∀ d ∈ ([] : List PyData), PlD n d := fun d hd => by cases hd
/-- two lists of ints in a list -/
theorem dpTwo {K : PySem.W.Frag} {H : Hp} {l a b : Addr} {xs ys : List Int} (h : SqL K H l [.ref a, .ref b]) (ha : SqL K H a (xs.map V.int)) (hb : SqL K H b (ys.map V.int)) :
    Dp K H (.ref l) (.list [.list (xs.map PyData.int), .list (ys.map PyData.int)]) := .lst h (.cons (dpInts ha) (.cons (dpInts hb) .nil))
theorem plTwo (xs ys : List Int) : PlD 2 (.list [.list (xs.map PyData.int), .list (ys.map PyData.int)]) := plList (plCons (plInts xs) (plCons (plInts ys) plNil))
/-- != of two such -/
theorem neTwo {K : PySem.W.Frag} {H : Hp} {l l' a b a' b' : Addr} {xs ys : List Int} {Q : VK} (h : SqL K H l [.ref a, .ref b]) (ha : SqL K H a (xs.map V.int)) (hb : SqL K H b (ys.map V.int))
    (h' : SqL K H l' [.ref a', .ref b']) (ha' : SqL K H a' (xs.map V.int)) (hb' : SqL K H b' (ys.map V.int)) (k : Q (.bl false) H) : rNeDI K (.ref l) (.ref l') H Q := by
  unfold rNeDI
  exact ⟨_, _, dpTwo h ha hb, dpTwo h' ha' hb', (plTwo xs ys).ok (by decide), (plTwo xs ys).ok (by decide), by rw [(plTwo xs ys).eq]; exact k⟩
theorem eqTwo {K : PySem.W.Frag} {H : Hp} {l l' a b a' b' : Addr} {xs ys : List Int} {Q : VK} (h : SqL K H l [.ref a, .ref b]) (ha : SqL K H a (xs.map V.int)) (hb : SqL K H b (ys.map V.int))
    (h' : SqL K H l' [.ref a', .ref b']) (ha' : SqL K H a' (xs.map V.int)) (hb' : SqL K H b' (ys.map V.int)) (k : Q (.bl true) H) : rEqDI K (.ref l) (.ref l') H Q := by
  unfold rEqDI
  exact ⟨_, _, dpTwo h ha hb, dpTwo h' ha' hb', (plTwo xs ys).ok (by decide), (plTwo xs ys).ok (by decide), by rw [(plTwo xs ys).eq]; exact k⟩
end Pw
namespace Pw
section
variable {K : PySem.W.Frag} {H : Hp} {x y : V} {d : PyData} {n : Nat} {Q : VK}
theorem eqSame (h : Dp K H x d) (h' : Dp K H y d) (pl : PlD n d) (k : Q (.bl true) H) (hn : n ≤ 64 := by decide) : rEqDI K x y H Q := by
  unfold rEqDI
  exact ⟨_, _, h, h', pl.ok hn, pl.ok hn, by rw [pl.eq]; exact k⟩
theorem neSame (h : Dp K H x d) (h' : Dp K H y d) (pl : PlD n d) (k : Q (.bl false) H) (hn : n ≤ 64 := by decide) : rNeDI K x y H Q := by
  unfold rNeDI
  exact ⟨_, _, h, h', pl.ok hn, pl.ok hn, by rw [pl.eq]; exact k⟩
theorem dpBools {a : Addr} (bs : List Bool) (h : SqL K H a (bs.map V.bl)) : Dp K H (.ref a) (.list (bs.map PyData.bool)) := .lst h (dpAllMap (fun x => .bl x) bs)
theorem plBools (bs : List Bool) : PlD 1 (.list (bs.map PyData.bool)) := plList fun d hd => by
  obtain ⟨x, _, rfl⟩ := List.mem_map.mp hd
  exact plBool x
theorem dpPair {p : Addr} {u v : V} {du dv : PyData} (h : H p = some (.tup [u, v])) (hu : Dp K H u du) (hv : Dp K H v dv) : Dp K H (.ref p) (.tuple [du, dv]) := .tup (SqT.of h) (.cons hu (.cons hv .nil))
theorem plPair {du dv : PyData} (hu : PlD n du) (hv : PlD n dv) : PlD (n + 1) (.tuple [du, dv]) := plTup (plCons hu (plCons hv plNil))
theorem dpNil {p : Addr} (h : SqL K H p []) : Dp K H (.ref p) (.list []) := .lst h .nil
theorem plNilL : PlD 1 (.list []) := plList plNil
end
theorem WallAt.lstUpd {K : PySem.W.Frag} {H : Hp} {s : WS} {a : Addr} {xs ys : List V} (h : WallAt K H s) (ha : H a = some (.lst xs)) (n1 : a ≠ s.l1) (n2 : a ≠ s.l2) (n3 : a ≠ s.l3) : WallAt K (upd H a (.lst ys)) s :=
  ⟨by rw [upd_ne (ne_of h.ob ha (by intro q; cases q))]; exact h.ob, by rw [upd_ne (Ne.symm n1)]; exact h.bx, by rw [upd_ne (Ne.symm n2)]; exact h.is,
   let ⟨ts, h1, h2, h3⟩ := h.ps; ⟨ts, by rw [upd_ne (Ne.symm n3)]; exact h1, h2, fun j t q => by rw [upd_ne (ne_of (h3 j t q) ha (by intro q; cases q))]; exact h3 j t q⟩, h.n12, h.n13, h.n23, h.len, h.l8, h.pl, h.nb⟩
end Pw
namespace Pw
/-! ### lists of pairs of ints -/
def pairAt (H : Hp) (v : V) : Int × Int := match v with
  | .ref t => (match H t with
    | some (.tup [.int i, .int j]) => (i, j)
    | _ => (0, 0))
  | _ => (0, 0)
theorem pairAt_of {H : Hp} {t : Addr} {i j : Int} (h : H t = some (.tup [.int i, .int j])) : pairAt H (.ref t) = (i, j) := by
  unfold pairAt
  simp only [h]
def IsPair (H : Hp) (y : V) : Prop := ∃ (t : Addr) (i j : Int), y = V.ref t ∧ H t = some (.tup [.int i, .int j])
theorem IsPair.at_ {H : Hp} {y : V} (h : IsPair H y) : ∃ t, y = V.ref t ∧ H t = some (.tup [.int (pairAt H y).1, .int (pairAt H y).2]) := by
  obtain ⟨t, i, j, rfl, e⟩ := h
  exact ⟨t, rfl, by rw [pairAt_of e]; exact e⟩
theorem IsPair.keep {H H' : Hp} {y : V} (h : IsPair H y) (s : ∀ t i j, H t = some (.tup [.int i, .int j]) → H' t = some (.tup [.int i, .int j])) : IsPair H' y ∧ pairAt H' y = pairAt H y := by
  obtain ⟨t, i, j, rfl, e⟩ := h
  exact ⟨⟨t, i, j, rfl, s _ _ _ e⟩, by rw [pairAt_of e, pairAt_of (s _ _ _ e)]⟩
/-- a list of pairs stands at p -/
structure PairL (H : Hp) (p : Addr) (ps : List (Int × Int)) : Prop where
  ex : ∃ ys : List V, H p = some (.lst ys) ∧ (∀ y ∈ ys, IsPair H y) ∧ ys.map (pairAt H) = ps
theorem mapKeep {H H' : Hp} {ys : List V} (h : ∀ y ∈ ys, IsPair H y) (s : ∀ t i j, H t = some (.tup [.int i, .int j]) → H' t = some (.tup [.int i, .int j])) : (∀ y ∈ ys, IsPair H' y) ∧ ys.map (pairAt H') = ys.map (pairAt H) :=
  ⟨fun y hy => ((h y hy).keep s).1, List.map_congr_left fun y hy => ((h y hy).keep s).2⟩
theorem PairL.mono {H H' : Hp} {p : Addr} {ps : List (Int × Int)} (h : PairL H p ps) (s : Same H H') : PairL H' p ps := by
  obtain ⟨ys, h1, h2, h3⟩ := h.ex
  have q := mapKeep (H' := H') h2 fun t i j e => s _ _ e
  exact ⟨ys, s _ _ h1, q.1, by rw [q.2, h3]⟩
theorem PairL.at_ {H : Hp} {p : Addr} {ps : List (Int × Int)} (h : PairL H p ps) {z : Int} (h0 : 0 ≤ z) (h1 : z < ps.length) :
    ∃ ys t, H p = some (.lst ys) ∧ atI ys z = some (V.ref t) ∧ H t = some (.tup [.int (ps.getD z.toNat (0, 0)).1, .int (ps.getD z.toNat (0, 0)).2]) := by
  obtain ⟨ys, e1, e2, e3⟩ := h.ex
  have hl : ys.length = ps.length := by rw [← e3, List.length_map]
  have hz : z.toNat < ys.length := by omega
  obtain ⟨t, ht, hh⟩ := (e2 ys[z.toNat] (List.getElem_mem hz)).at_
  refine ⟨ys, t, e1, at_of (j := z.toNat) (by omega) (by rw [List.getElem?_eq_getElem hz, ht]), ?_⟩
  have e : ps.getD z.toNat (0, 0) = pairAt H ys[z.toNat] := by
    rw [← e3, List.getD_eq_getElem?_getD, List.getElem?_map, List.getElem?_eq_getElem hz]; rfl
  rw [e]; exact hh
theorem PairL.len {H : Hp} {p : Addr} {ps : List (Int × Int)} (h : PairL H p ps) : ∃ ys, H p = some (.lst ys) ∧ ys.length = ps.length := by
  obtain ⟨ys, e1, _, e3⟩ := h.ex
  exact ⟨ys, e1, by rw [← e3, List.length_map]⟩
theorem PairL.nil {H : Hp} {p : Addr} (h : H p = some (.lst [])) : PairL H p [] := ⟨[], h, fun y hy => (by cases hy), rfl⟩
theorem PairL.snoc {H : Hp} {D t : Addr} {ps : List (Int × Int)} {i j : Int} (h : PairL H D ps) (ht : H t = some (.tup [.int i, .int j])) :
    ∃ ys, H D = some (.lst ys) ∧ ys.length = ps.length ∧ PairL (upd H D (.lst (ys ++ [V.ref t]))) D (ps ++ [(i, j)]) := by
  obtain ⟨ys, e1, e2, e3⟩ := h.ex
  refine ⟨ys, e1, by rw [← e3, List.length_map], ?_⟩
  have s : ∀ (t' : Addr) (i j : Int), H t' = some (.tup [.int i, .int j]) → upd H D (.lst (ys ++ [V.ref t])) t' = some (.tup [.int i, .int j]) := fun t' i j e => by
    rw [upd_ne (ne_of e e1 (by intro q; cases q))]; exact e
  have q := mapKeep (H' := upd H D (.lst (ys ++ [V.ref t]))) e2 s
  refine ⟨ys ++ [V.ref t], upd_same, fun y hy => ?_, ?_⟩
  · rcases List.mem_append.mp hy with z | z
    · exact q.1 y z
    · rw [List.mem_singleton.mp z]; exact ⟨t, i, j, rfl, s _ _ _ ht⟩
  · rw [List.map_append, q.2, e3]
    show ps ++ [pairAt _ (V.ref t)] = _
    rw [pairAt_of (s _ _ _ ht)]
def LexLe (p q : Int × Int) : Prop := p.1 < q.1 ∨ (p.1 = q.1 ∧ p.2 ≤ q.2)
/-- sorted(ps) -/
theorem sortedPairs {K : PySem.W.Frag} {H : Hp} {Q : VK} {a : Addr} {ps : List (Int × Int)} (h : PairL H a ps)
    (k : ∀ (ps' : List (Int × Int)) (p : Addr) (H' : Hp), ps'.Perm ps → ps'.Pairwise LexLe → Same H H' → H p = none → PairL H' p ps' → Q (.ref p) H') : rSortPO K [.ref a] H Q := by
  unfold rSortPO
  obtain ⟨ys, e1, e2, e3⟩ := h.ex
  refine ⟨a, ys, pairAt H, rfl, SqL.of e1, fun x hx => (e2 x hx).at_, fun zs p hs hst hp => ?_⟩
  have hperm : zs.Perm ys := hst.perm
  have s : Same H (upd H p (.lst zs)) := sameNew (Same.refl _) hp
  have hz : ∀ y ∈ zs, IsPair H y := fun y hy => e2 y (hperm.mem_iff.mp hy)
  have q := mapKeep (H' := upd H p (.lst zs)) hz fun t i j e => s _ _ e
  refine k (zs.map (pairAt H)) p _ (by rw [← e3]; exact hperm.map _) ?_ s hp ⟨zs, upd_same, q.1, q.2⟩
  rw [List.pairwise_map]
  refine List.Pairwise.imp (fun {x y} hxy => ?_) hs
  have := SrtO.lexB_no.mp hxy
  unfold LexLe
  omega
section
variable {K : PySem.W.Frag} {tt : TT} {te : TE} {vs : List Nat} {j : Nat} {σ : L2.St} {H1 : Hp} {D : Addr} {Qd : Hp → Prop}
/-- [(f(i), g(i)) for i in range(n) if p(i)] -/
theorem lcPairs {lo : Int} {n : Nat} (p : Nat → Bool) (f g : Nat → Int) (hD : H1 D = none) (hlen : n ≤ 50000) (hw : ∀ x, wipe ((wipe σ vs).set j (some x)) vs = wipe σ vs)
    (ht : ∀ (i : Nat) H', i < n → Same H1 H' → ∀ T : Bool → Hp → Prop, (∀ H'', Same H' H'' → T (p i) H'') → tt ((wipe σ vs).set j (some (.int (lo + i)))) H' T)
    (he : ∀ (i : Nat) H', i < n → p i = true → Same H1 H' → ∀ Qv : VK, (∀ t H'', Same H' H'' → H'' t = some (.tup [.int (f i), .int (g i)]) → Qv (.ref t) H'') → te ((wipe σ vs).set j (some (.int (lo + i)))) H' Qv)
    (hd : ∀ H', Same H1 H' → PairL H' D (((List.range n).filter p).map fun i => (f i, g i)) → Qd H') :
    ∃ W : Nat → Nat → Hp → Prop, (∃ m, W 0 m (upd H1 D (.lst []))) ∧ ∀ i m H, W i m H →
      ((Itr lo n).stop i H ∧ Qd H) ∨ ((Itr lo n).go i H ∧ ∃ Nx : Hp → Prop, (∀ H', Nx H' → ∃ m', m' < m ∧ W (i + 1) m' H') ∧ ∀ x H', (Itr lo n).yld i H x H' → gName j x (wipe σ vs) H' fun σ2 H2 => wipe σ2 vs = wipe σ vs ∧ tt σ2 H2 fun b H3 =>
        if b = true then te σ2 H3 fun y H4 => ∃ acc, H4 D = some (.lst acc) ∧ acc.length < sizeLine ∧ Nx (upd H4 D (.lst (acc ++ [y]))) else Nx H3) := by
  refine lc_range (lo := lo) (n := n) (fun i H' => Same H1 H' ∧ PairL H' D (((List.range i).filter p).map fun i => (f i, g i))) ⟨sameNew (Same.refl _) hD, PairL.nil upd_same⟩ ?_ ?_
  · rintro i H' hi ⟨s, hL⟩
    refine ⟨hw _, ?_⟩
    refine ht i H' hi s _ fun H3 s3 => ?_
    have e : ((List.range (i + 1)).filter p).map (fun i => (f i, g i)) = ((List.range i).filter p).map (fun i => (f i, g i)) ++ (if p i = true then [(f i, g i)] else []) := by
      rw [List.range_succ, List.filter_append, List.map_append]
      congr 1
      by_cases c : p i = true
      · rw [if_pos c]; simp [c]
      · rw [if_neg c]; simp [c]
    refine ifB (fun c => ?_) (fun c => ?_)
    · refine he i H3 hi c (s.trans s3) _ fun t H4 s4 ht4 => ?_
      rw [if_pos c] at e
      obtain ⟨ys, y1, y2, y3⟩ := (hL.mono (s3.trans s4)).snoc ht4
      refine ⟨ys, y1, ?_, sameMut (s.trans (s3.trans s4)) hD, by rw [e]; exact y3⟩
      have q1 : (((List.range i).filter p).map fun i => (f i, g i)).length ≤ i := by
        rw [List.length_map]
        exact Nat.le_trans (List.length_filter_le _ _) (by rw [List.length_range]; omega)
      exact szLt (by omega)
    · rw [if_neg (by rw [c]; exact Bool.false_ne_true), List.append_nil] at e
      exact ⟨s.trans s3, by rw [e]; exact hL.mono s3⟩
  · rintro H' ⟨s, hL⟩
    exact hd H' s hL
end
/-! ### how many are as great -/
def cntGe (xs : List Int) (s : Int) : Nat := (xs.filter fun x => decide (s ≤ x)).length
theorem cntGe_cons (x : Int) (xs : List Int) (s : Int) : cntGe (x :: xs) s = (if s ≤ x then 1 else 0) + cntGe xs s := by
  unfold cntGe
  by_cases h : s ≤ x
  · simp [h]; omega
  · simp [h]
theorem cntGe_perm {xs ys : List Int} (h : xs.Perm ys) (s : Int) : cntGe xs s = cntGe ys s := (h.filter _).length_eq
theorem cntGe_zero {xs : List Int} {s : Int} (h : ∀ y ∈ xs, y < s) : cntGe xs s = 0 := by
  induction xs with
  | nil => rfl
  | cons x r ih =>
    rw [cntGe_cons, if_neg (by have := h x List.mem_cons_self; omega), ih fun y hy => h y (List.mem_cons_of_mem _ hy)]
theorem cntGe_le (xs : List Int) (s : Int) : cntGe xs s ≤ xs.length := List.length_filter_le _ _
theorem cntGe_all {xs : List Int} {s : Int} (h : ∀ y ∈ xs, s ≤ y) : cntGe xs s = xs.length := by
  induction xs with
  | nil => rfl
  | cons x r ih =>
    rw [cntGe_cons, if_pos (h x List.mem_cons_self), ih fun y hy => h y (List.mem_cons_of_mem _ hy), List.length_cons]; omega
/-- in a falling list the first of those as great as s -/
theorem desc_cnt : ∀ {A : List Int} {s : Int}, A.Pairwise (fun x y => y ≤ x) → ∀ (k : Nat) (hk : k < A.length), s ≤ A[k] ↔ k < cntGe A s
  | [], _, _, k, hk => absurd hk (Nat.not_lt_zero _)
  | x :: r, s, h, k, hk => by
    obtain ⟨h1, h2⟩ := List.pairwise_cons.mp h
    rw [cntGe_cons]
    by_cases c : s ≤ x
    · rw [if_pos c]
      cases k with
      | zero => show s ≤ x ↔ _; exact ⟨fun _ => by omega, fun _ => c⟩
      | succ k =>
        have hk' : k < r.length := Nat.lt_of_succ_lt_succ hk
        have ih := desc_cnt (s := s) h2 k hk'
        show s ≤ r[k] ↔ _
        rw [ih]; omega
    · rw [if_neg c, cntGe_zero (fun y hy => by have := h1 y hy; omega)]
      constructor
      · intro q
        cases k with
        | zero => exact absurd q c
        | succ k =>
          have := h1 _ (List.getElem_mem (Nat.lt_of_succ_lt_succ hk))
          have q : s ≤ r[k]'(Nat.lt_of_succ_lt_succ hk) := q
          omega
      · intro q; omega
theorem fallen_le {A B : List Int} (hA : A.Pairwise fun x y => y ≤ x) (hB : B.Pairwise fun x y => y ≤ x) (h : ∀ s, 1 ≤ s → s ≤ 9 → cntGe A s ≤ cntGe B s) (hr : ∀ x ∈ A, 1 ≤ x ∧ x ≤ 9) (k : Nat) (hk : k < A.length) :
    ∃ hk' : k < B.length, A[k] ≤ B[k] := by
  have hs := hr _ (List.getElem_mem hk)
  have c1 := (desc_cnt (s := A[k]) hA k hk).mp (Int.le_refl _)
  have c2 := h A[k] hs.1 hs.2
  have c3 := cntGe_le B A[k]
  have hk' : k < B.length := by omega
  exact ⟨hk', (desc_cnt hB k hk').mpr (by omega)⟩
/-! ### a fitting -/
def Boxes (sizes parcels fs : List Int) : Prop := fs.length = parcels.length ∧ (∀ k < parcels.length, 0 ≤ fs.getD k 0 ∧ fs.getD k 0 < sizes.length ∧ parcels.getD k 0 ≤ sizes.getD (fs.getD k 0).toNat 0) ∧ fs.Nodup
def Many (sizes parcels : List Int) (s : Int) : Prop := 1 ≤ s ∧ s ≤ 9 ∧ cntGe sizes s < cntGe parcels s
/-- the falling order of xs, with the places -/
structure Fall (xs : List Int) (ps : List (Int × Int)) : Prop where
  perm : ps.Perm ((List.range xs.length).map fun i => (0 - xs.getD i 0, (i : Int)))
  srt : ps.Pairwise LexLe
namespace Fall
variable {xs : List Int} {ps : List (Int × Int)} (F : Fall xs ps)
include F
theorem len : ps.length = xs.length := by rw [F.perm.length_eq]; simp
theorem item {j : Nat} (hj : j < ps.length) : ∃ i : Nat, i < xs.length ∧ (ps.getD j (0, 0)).2 = (i : Int) ∧ (ps.getD j (0, 0)).1 = 0 - xs.getD i 0 := by
  have e : ps.getD j (0, 0) = ps[j] := by rw [List.getD_eq_getElem?_getD, List.getElem?_eq_getElem hj]; rfl
  have m := F.perm.mem_iff.mp (List.getElem_mem hj)
  obtain ⟨i, hi, q⟩ := List.mem_map.mp m
  exact ⟨i, List.mem_range.mp hi, by rw [e, ← q], by rw [e, ← q]⟩
theorem places : (ps.map (·.2)).Perm ((List.range xs.length).map fun i : Nat => (i : Int)) := by
  have q := F.perm.map (·.2)
  rw [List.map_map] at q
  exact q
theorem nodup : (ps.map (·.2)).Nodup := by
  refine F.places.nodup_iff.mpr ?_
  refine List.Pairwise.map _ (R := (· ≠ ·)) (fun a b h e => h (by omega)) List.nodup_range
theorem vals : (ps.map fun p => 0 - p.1).Perm xs := by
  have q := F.perm.map (fun p => 0 - p.1)
  rw [List.map_map] at q
  have e : (List.range xs.length).map ((fun p : Int × Int => 0 - p.1) ∘ fun i => (0 - xs.getD i 0, (i : Int))) = xs := by
    refine List.ext_getElem (by simp) fun i h1 h2 => ?_
    rw [List.getElem_map, List.getElem_range]
    show 0 - (0 - xs.getD i 0) = _
    rw [getDlt h2]; omega
  rw [e] at q
  exact q
theorem falls : (ps.map fun p => 0 - p.1).Pairwise fun x y => y ≤ x := by
  rw [List.pairwise_map]
  exact F.srt.imp fun {x y} h => by unfold LexLe at h; omega
end Fall
/-- what the two orders tell: the k-th greatest parcel goes into the k-th greatest box -/
theorem fall_fits {sizes parcels : List Int} {po pf : List (Int × Int)} (O : Fall parcels po) (F : Fall sizes pf) (okp : OkP parcels) (h : ∀ s, 1 ≤ s → s ≤ 9 → cntGe parcels s ≤ cntGe sizes s) {j : Nat} (hj : j < po.length) :
    ∃ (i b : Nat), i < parcels.length ∧ b < sizes.length ∧ j < pf.length ∧ (po.getD j (0, 0)).2 = (i : Int) ∧ (pf.getD j (0, 0)).2 = (b : Int) ∧ parcels.getD i 0 ≤ sizes.getD b 0 := by
  obtain ⟨i, hi, e1, e2⟩ := O.item hj
  obtain ⟨hk, hle⟩ := fallen_le O.falls F.falls (fun s h1 h2 => by rw [cntGe_perm O.vals, cntGe_perm F.vals]; exact h s h1 h2) (fun x hx => okp x (O.vals.mem_iff.mp hx)) j (by rw [List.length_map]; exact hj)
  have hj2 : j < pf.length := by rw [List.length_map] at hk; exact hk
  obtain ⟨b, hb, f1, f2⟩ := F.item hj2
  refine ⟨i, b, hi, hb, hj2, e1, f1, ?_⟩
  rw [List.getElem_map, List.getElem_map] at hle
  have e : po.getD j (0, 0) = po[j] := by rw [List.getD_eq_getElem?_getD, List.getElem?_eq_getElem hj]; rfl
  have f : pf.getD j (0, 0) = pf[j] := by rw [List.getD_eq_getElem?_getD, List.getElem?_eq_getElem hj2]; rfl
  rw [e] at e2
  rw [f] at f2
  omega
/-- the boxes found so far -/
def Found (po pf : List (Int × Int)) (n i : Nat) (fs : List Int) : Prop := fs.length = n ∧ ∀ j < i, fs.getD (po.getD j (0, 0)).2.toNat 0 = (pf.getD j (0, 0)).2
theorem found_set {xs : List Int} {po pf : List (Int × Int)} (O : Fall xs po) {i : Nat} {fs : List Int} (hi : i < po.length) (h : Found po pf xs.length i fs) : Found po pf xs.length (i + 1) (fs.set (po.getD i (0, 0)).2.toNat (pf.getD i (0, 0)).2) := by
  obtain ⟨hl, ha⟩ := h
  obtain ⟨a, ha1, ha2, _⟩ := O.item hi
  refine ⟨by rw [List.length_set]; exact hl, fun j hj => ?_⟩
  obtain ⟨b, hb1, hb2, _⟩ := O.item (j := j) (by omega)
  by_cases c : j = i
  · subst c
    rw [List.getD_eq_getElem?_getD, List.getElem?_set_self (by rw [ha2]; omega)]; rfl
  · have ne : (po.getD i (0, 0)).2.toNat ≠ (po.getD j (0, 0)).2.toNat := fun e => by
      have nd := O.nodup
      have hj' : j < (po.map (·.2)).length := by rw [List.length_map]; omega
      have hi' : i < (po.map (·.2)).length := by rw [List.length_map]; omega
      have q : (po.map (·.2))[i] = (po.map (·.2))[j] := by
        rw [List.getElem_map, List.getElem_map]
        have e1 : po.getD i (0, 0) = po[i] := by rw [List.getD_eq_getElem?_getD, List.getElem?_eq_getElem hi]; rfl
        have e2 : po.getD j (0, 0) = po[j]'(by omega) := by rw [List.getD_eq_getElem?_getD, List.getElem?_eq_getElem (by omega)]; rfl
        rw [← e1, ← e2]; omega
      exact c ((List.getElem_inj nd).mp q).symm
    rw [List.getD_eq_getElem?_getD, List.getElem?_set_ne ne, ← List.getD_eq_getElem?_getD]
    exact ha j (by omega)
theorem found_boxes {sizes parcels : List Int} {po pf : List (Int × Int)} (O : Fall parcels po) (F : Fall sizes pf) (okp : OkP parcels) (h : ∀ s, 1 ≤ s → s ≤ 9 → cntGe parcels s ≤ cntGe sizes s) {fs : List Int} (hf : Found po pf parcels.length po.length fs) : Boxes sizes parcels fs := by
  obtain ⟨hl, ha⟩ := hf
  have key : ∀ k < parcels.length, ∃ j, j < po.length ∧ (po.getD j (0, 0)).2 = (k : Int) := fun k hk => by
    have m : ((k : Nat) : Int) ∈ po.map (·.2) := O.places.mem_iff.mpr (List.mem_map.mpr ⟨k, List.mem_range.mpr hk, rfl⟩)
    obtain ⟨j, hj, e⟩ := List.mem_iff_getElem.mp m
    rw [List.length_map] at hj
    rw [List.getElem_map] at e
    exact ⟨j, hj, by rw [List.getD_eq_getElem?_getD, List.getElem?_eq_getElem hj]; exact e⟩
  refine ⟨hl, fun k hk => ?_, ?_⟩
  · obtain ⟨j, hj, e⟩ := key k hk
    obtain ⟨i, b, hi, hb, hj2, e1, e2, e3⟩ := fall_fits O F okp h hj
    have q := ha j hj
    have : i = k := by omega
    subst this
    rw [e1] at q
    rw [show ((i : Nat) : Int).toNat = i from rfl] at q
    rw [q, e2]
    refine ⟨by omega, by omega, ?_⟩
    rw [show ((b : Nat) : Int).toNat = b from rfl]; exact e3
  · refine List.pairwise_iff_getElem.mpr fun k k' hk hk' hlt e => ?_
    obtain ⟨j, hj, e1⟩ := key k (by omega)
    obtain ⟨j', hj', e1'⟩ := key k' (by omega)
    obtain ⟨i, b, hi, hb, hj2, f1, f2, f3⟩ := fall_fits O F okp h hj
    obtain ⟨i', b', hi', hb', hj2', f1', f2', f3'⟩ := fall_fits O F okp h hj'
    have q := ha j hj
    have q' := ha j' hj'
    rw [e1, show ((k : Nat) : Int).toNat = k from rfl, getDlt hk] at q
    rw [e1', show ((k' : Nat) : Int).toNat = k' from rfl, getDlt hk'] at q'
    have eb : (pf.getD j (0, 0)).2 = (pf.getD j' (0, 0)).2 := by rw [← q, ← q', e]
    have nd := F.nodup
    have z : (pf.map (·.2))[j]'(by rw [List.length_map]; exact hj2) = (pf.map (·.2))[j']'(by rw [List.length_map]; exact hj2') := by
      rw [List.getElem_map, List.getElem_map]
      have x1 : pf.getD j (0, 0) = pf[j] := by rw [List.getD_eq_getElem?_getD, List.getElem?_eq_getElem hj2]; rfl
      have x2 : pf.getD j' (0, 0) = pf[j'] := by rw [List.getD_eq_getElem?_getD, List.getElem?_eq_getElem hj2']; rfl
      rw [← x1, ← x2]; exact eb
    have jj := (List.getElem_inj nd).mp z
    subst jj
    omega
end Pw
namespace Pw
/-- the box that a parcel of a size comes into: the least that holds it, the first of alike ones -/
def LB (sizes : List Int) (fs : List Nat) (size : Int) (b : Nat) : Prop := b ∈ fs ∧ size ≤ sizes.getD b 0 ∧ ∀ c ∈ fs, size ≤ sizes.getD c 0 → (sizes.getD b 0 < sizes.getD c 0 ∨ (sizes.getD b 0 = sizes.getD c 0 ∧ b ≤ c))
theorem LB.uniq {sizes : List Int} {fs : List Nat} {size : Int} {b c : Nat} (h : LB sizes fs size b) (h' : LB sizes fs size c) : b = c := by
  have h1 := h.2.2 c h'.1 h'.2.1
  have h2 := h'.2.2 b h.1 h.2.1
  omega
def freeL (inside : List (Option Nat)) : List Nat := (List.range inside.length).filter fun i => (inside.getD i none).isNone
theorem mem_free {l : List (Option Nat)} {b : Nat} : b ∈ freeL l ↔ b < l.length ∧ l.getD b none = none := by
  unfold freeL
  rw [List.mem_filter, List.mem_range, Option.isNone_iff_eq_none]
theorem free_lt (l : List (Option Nat)) : (freeL l).Pairwise (· < ·) := List.Pairwise.filter _ List.pairwise_lt_range
theorem free_len (l : List (Option Nat)) : (freeL l).length ≤ l.length := freeLen l
def WS.came (s : WS) (b : Nat) (size till : Int) : WS := { s with inside := s.inside.set b (some s.parcels.length), parcels := s.parcels ++ [(size, till)] }
theorem WallAt.came {K : PySem.W.Frag} {H : Hp} {s : WS} (A : WallAt K H s) {ts : List Addr} (h1 : H s.l3 = some (.lst (ts.map V.ref))) (h2 : ts.length = s.parcels.length)
    (h3 : ∀ (j : Nat) (t : Addr), ts[j]? = some t → H t = some (.tup [.int (s.parcels.getD j (0, 0)).1, .int (s.parcels.getD j (0, 0)).2])) {t : Addr} {size till : Int} (ht : H t = some (.tup [.int size, .int till])) {b : Nat} (hp : s.parcels.length < 1000) :
    WallAt K (upd (upd H s.l3 (.lst (ts.map V.ref ++ [V.ref t]))) s.l2 (.lst ((s.inside.set b (some s.parcels.length)).map optV))) (s.came b size till) := by
  have tne : ∀ {x : Addr} {u v : V}, H x = some (.tup [u, v]) → upd (upd H s.l3 (.lst (ts.map V.ref ++ [V.ref t]))) s.l2 (.lst ((s.inside.set b (some s.parcels.length)).map optV)) x = some (.tup [u, v]) := fun {x u v} e => by
    rw [upd_ne (ne_of e A.is (by intro q; cases q)), upd_ne (ne_of e h1 (by intro q; cases q))]; exact e
  refine ⟨?_, ?_, ?_, ⟨ts ++ [t], ?_, ?_, ?_⟩, A.n12, A.n13, A.n23, ?_, A.l8, ?_, ?_⟩
  · show upd _ s.l2 _ s.w = _
    rw [upd_ne (ne_of A.ob A.is (by intro q; cases q)), upd_ne (ne_of A.ob h1 (by intro q; cases q))]; exact A.ob
  · show upd _ s.l2 _ s.l1 = _
    rw [upd_ne A.n12, upd_ne A.n13]; exact A.bx
  · show upd _ s.l2 _ s.l2 = _
    exact upd_same
  · show upd _ s.l2 _ s.l3 = _
    rw [upd_ne (Ne.symm A.n23), upd_same, List.map_append]; rfl
  · show (ts ++ [t]).length = (s.parcels ++ [(size, till)]).length
    rw [List.length_append, List.length_append, h2]; rfl
  · intro j x hx
    show _ = some (HO.tup [.int ((s.parcels ++ [(size, till)]).getD j (0, 0)).1, .int ((s.parcels ++ [(size, till)]).getD j (0, 0)).2])
    rw [List.getD_eq_getElem?_getD]
    by_cases c : j < ts.length
    · rw [List.getElem?_append_left c] at hx
      rw [List.getElem?_append_left (by omega), ← List.getD_eq_getElem?_getD]
      exact tne (h3 j x hx)
    · have hj := getLt hx
      rw [List.length_append, List.length_singleton] at hj
      have e : j = ts.length := by omega
      subst e
      rw [List.getElem?_append_right (Nat.le_refl _), Nat.sub_self] at hx
      rw [List.getElem?_append_right (by omega), h2, Nat.sub_self]
      cases hx
      exact tne ht
  · show (s.inside.set b _).length = _
    rw [List.length_set]; exact A.len
  · show (s.parcels ++ [(size, till)]).length ≤ 1000
    rw [List.length_append, List.length_singleton]; omega
  · intro j n hn
    show n < (s.parcels ++ [(size, till)]).length
    have hn : (s.inside.set b (some s.parcels.length))[j]? = some (some n) := hn
    rw [List.length_append, List.length_singleton]
    rw [List.getElem?_set] at hn
    split at hn
    · split at hn
      · have : s.parcels.length = n := Option.some.inj (Option.some.inj hn)
        omega
      · cases hn
    · have := A.nb j n hn
      omega
theorem Frm.refl (s : WS) (H : Hp) : Frm s H H := fun _ _ e _ _ _ => e
theorem Frm.trans {s : WS} {H H1 H2 : Hp} (a : Frm s H H1) (b : Frm s H1 H2) : Frm s H H2 := fun x o e n1 n2 n3 => b x o (a x o e n1 n2 n3) n1 n2 n3
theorem Frm.same {s : WS} {H H1 : Hp} (a : Same H H1) : Frm s H H1 := fun x o e _ _ _ => a x o e
theorem setOpt {l : List (Option Nat)} {b n : Nat} : (l.map optV).set b (V.int (n : Int)) = (l.set b (some n)).map optV := by
  rw [List.map_set]; rfl
theorem setNon {l : List (Option Nat)} {b : Nat} : (l.map optV).set b V.non = (l.set b none).map optV := by
  rw [List.map_set]; rfl
end Pw
namespace Pw
theorem frmSame {s : WS} {H0 H1 H2 : Hp} (a : Same H0 H1) (f : Frm s H1 H2) (n1 : H0 s.w = none) (n2 : H0 s.l2 = none) (n3 : H0 s.l3 = none) : Same H0 H2 := fun x o e => f x o (a x o e) (ne_of_none e n1) (ne_of_none e n2) (ne_of_none e n3)
theorem lstNeW {K : PySem.W.Frag} {H : Hp} {s : WS} {a : Addr} {xs : List V} (A : WallAt K H s) (h : H a = some (.lst xs)) : a ≠ s.w := ne_of h A.ob (by intro q; cases q)
end Pw
namespace Pw
theorem WallAt.keep {K : PySem.W.Frag} {H H' : Hp} {s : WS} {as : List Addr} (A : WallAt K H s) (f : ∀ b o, H b = some o → b ∉ as → H' b = some o) (nw : s.w ∉ as) (n1 : s.l1 ∉ as) (n2 : s.l2 ∉ as) (n3 : s.l3 ∉ as)
    (nt : ∀ b u v, H b = some (.tup [u, v]) → b ∉ as) : WallAt K H' s :=
  ⟨f _ _ A.ob nw, f _ _ A.bx n1, f _ _ A.is n2, let ⟨ts, h1, h2, h3⟩ := A.ps; ⟨ts, f _ _ h1 n3, h2, fun j t q => f _ _ (h3 j t q) (nt _ _ _ (h3 j t q))⟩, A.n12, A.n13, A.n23, A.len, A.l8, A.pl, A.nb⟩
/-- the heap without some things -/
def hide (H : Hp) (as : List Addr) : Hp := fun x => if x ∈ as then none else H x
theorem hide_in {H : Hp} {as : List Addr} {x : Addr} (h : x ∈ as) : hide H as x = none := if_pos h
theorem hide_out {H : Hp} {as : List Addr} {x : Addr} (h : x ∉ as) : hide H as x = H x := if_neg h
theorem hide_same (H : Hp) (as : List Addr) : Same (hide H as) H := fun x o e => by
  unfold hide at e
  split at e
  · cases e
  · exact e
theorem sameHide {H0 H : Hp} {as : List Addr} (s : Same H0 H) (h : ∀ z ∈ as, H0 z = none) : Same H0 (hide H as) := fun x o e => by
  rw [hide_out (fun m => by rw [h x m] at e; cases e)]; exact s x o e
theorem notIn {H : Hp} {as : List Addr} {x : Addr} (h : ∀ z ∈ as, H z ≠ none) (hx : H x = none) : x ∉ as := fun m => h x m hx
theorem notIn2 {H : Hp} {as : List Addr} {x : Addr} {o : HO} (h : ∀ z ∈ as, H z = none) (hx : H x = some o) : x ∉ as := fun m => by rw [h x m] at hx; cases hx
theorem nilNot {x : Addr} : x ∉ ([] : List Addr) := by simp
theorem consNot {x a : Addr} {as : List Addr} (h : x ≠ a) (t : x ∉ as) : x ∉ a :: as := by simp [h, t]
theorem someNe {H : Hp} {x : Addr} {o : HO} (h : H x = some o) : H x ≠ none := by rw [h]; intro z; cases z
theorem PairL.upd_tup {H H' : Hp} {p : Addr} {ps : List (Int × Int)} {as : List Addr} (h : PairL H p ps) (f : ∀ b o, H b = some o → b ∉ as → H' b = some o) (hp : p ∉ as) (nt : ∀ b u v, H b = some (.tup [u, v]) → b ∉ as) : PairL H' p ps := by
  obtain ⟨ys, h1, h2, h3⟩ := h.ex
  have q := mapKeep (H' := H') h2 fun t i j e => f _ _ e (nt _ _ _ e)
  exact ⟨ys, f _ _ h1 hp, q.1, by rw [q.2, h3]⟩
end Pw
namespace Pw
theorem isNone_opt (x : Option Nat) : decide (optV x = V.non) = x.isNone := by
  cases x <;> simp [optV]
end Pw
namespace Pw
/-- all but some things stands as it was -/
def Kp (as : List Addr) (H H' : Hp) : Prop := ∀ b o, H b = some o → b ∉ as → H' b = some o
theorem Kp.ofSame {as : List Addr} {H H' : Hp} (s : Same H H') : Kp as H H' := fun b o e _ => s b o e
theorem Kp.ofFrm {s : WS} {H H' : Hp} (f : Frm s H H') : Kp [s.w, s.l2, s.l3] H H' := fun b o e n => f b o e (fun q => n (by simp [q])) (fun q => n (by simp [q])) (fun q => n (by simp [q]))
theorem Kp.trans {as : List Addr} {H H1 H2 : Hp} (f : Kp as H H1) (g : Kp as H1 H2) : Kp as H H2 := fun b o e n => g b o (f b o e n) n
theorem Kp.more {as bs : List Addr} {H H' : Hp} (f : Kp as H H') (h : ∀ z ∈ as, z ∈ bs) : Kp bs H H' := fun b o e n => f b o e fun m => n (h b m)
theorem Kp.toFrm {s : WS} {H H' : Hp} (f : Kp [s.w, s.l2, s.l3] H H') : Frm s H H' := fun b o e n1 n2 n3 => f b o e (by simp [n1, n2, n3])
theorem hideStep {H0 H1 H2 : Hp} {as bs : List Addr} (s : Same (hide H0 as) H1) (k : Kp bs H1 H2) (m : ∀ z ∈ bs, z ∈ as) : Same (hide H0 as) H2 := fun x o e =>
  k x o (s x o e) fun q => by rw [hide_in (m x q)] at e; cases e
theorem hideGet {H0 : Hp} {as : List Addr} {x : Addr} {o : HO} (h : H0 x = some o) (n : x ∉ as) : hide H0 as x = some o := by rw [hide_out n]; exact h
/-- which refusal is due of a parcel that comes -/
def Rf (sizes : List Int) (inside : List (Option Nat)) (size nights : Int) (u : Str) : Prop :=
  (u = ("NoSize" : Str) ∧ ¬ (1 ≤ size ∧ size ≤ 9)) ∨ (u = ("NoNights" : Str) ∧ (1 ≤ size ∧ size ≤ 9) ∧ ¬ (1 ≤ nights ∧ nights ≤ 9)) ∨
  (u = ("NoBox" : Str) ∧ (1 ≤ size ∧ size ≤ 9) ∧ (1 ≤ nights ∧ nights ≤ 9) ∧ ∀ b ∈ freeL inside, sizes.getD b 0 < size)
theorem Rf.uniq {sizes : List Int} {inside : List (Option Nat)} {size nights : Int} {u v : Str} (h : Rf sizes inside size nights u) (h' : Rf sizes inside size nights v) : u = v := by
  rcases h with ⟨rfl, a⟩ | ⟨rfl, a, b⟩ | ⟨rfl, a, b, c⟩ <;> rcases h' with ⟨rfl, a'⟩ | ⟨rfl, a', b'⟩ | ⟨rfl, a', b', c'⟩ <;> first | rfl | (exact absurd a a') | (exact absurd a' a) | (exact absurd b b') | (exact absurd b' b)
/-- let in: into the box b -/
def In (sizes : List Int) (inside : List (Option Nat)) (size nights : Int) (b : Nat) : Prop := (1 ≤ size ∧ size ≤ 9) ∧ (1 ≤ nights ∧ nights ≤ 9) ∧ LB sizes (freeL inside) size b
theorem In.not {sizes : List Int} {inside : List (Option Nat)} {size nights : Int} {b : Nat} {u : Str} (h : In sizes inside size nights b) (h' : Rf sizes inside size nights u) : False := by
  obtain ⟨a, c, d⟩ := h
  rcases h' with ⟨_, a'⟩ | ⟨_, a', b'⟩ | ⟨_, a', b', c'⟩
  · exact a' a
  · exact b' c
  · have := c' b d.1
    have := d.2.1
    omega
end Pw
namespace Pw
/-! ### parcels in a wall -/
def hasP (l : List (Option Nat)) (n : Int) : Prop := ∃ m : Nat, (m : Int) = n ∧ some m ∈ l
theorem flatOpt (l : List (Option Nat)) : (l.map optV).all flatV = true := by
  rw [List.all_eq_true]
  intro v hv
  obtain ⟨x, _, rfl⟩ := List.mem_map.mp hv
  cases x <;> rfl
theorem flatNat (l : List Nat) : (l.map fun i : Nat => V.int (i : Int)).all flatV = true := by
  rw [List.all_eq_true]
  intro v hv
  obtain ⟨x, _, rfl⟩ := List.mem_map.mp hv
  rfl
theorem flatI (l : List Int) : (l.map V.int).all flatV = true := by
  rw [List.all_eq_true]
  intro v hv
  obtain ⟨x, _, rfl⟩ := List.mem_map.mp hv
  rfl
theorem inOpt {l : List (Option Nat)} {n : Int} : inV (.int n) (l.map optV) = true ↔ hasP l n := by
  unfold inV hasP
  rw [List.any_eq_true]
  constructor
  · rintro ⟨y, hy, e⟩
    obtain ⟨x, hx, rfl⟩ := List.mem_map.mp hy
    cases x with
    | none => exact absurd (show false = true from e) Bool.false_ne_true
    | some m => exact ⟨m, beq_iff_eq.mp (show ((m : Int) == n) = true from e), hx⟩
  · rintro ⟨m, rfl, hm⟩
    exact ⟨V.int m, List.mem_map.mpr ⟨some m, hm, rfl⟩, show ((m : Int) == (m : Int)) = true from beq_self_eq_true _⟩
theorem inOptF {l : List (Option Nat)} {n : Int} (h : inV (.int n) (l.map optV) = false) : ¬ hasP l n := fun q => by
  rw [inOpt.mpr q] at h; cases h
theorem inNat {l : List Nat} {n : Int} : inV (.int n) (l.map fun i : Nat => V.int (i : Int)) = true ↔ ∃ c ∈ l, ((c : Nat) : Int) = n := by
  unfold inV
  rw [List.any_eq_true]
  constructor
  · rintro ⟨y, hy, e⟩
    obtain ⟨x, hx, rfl⟩ := List.mem_map.mp hy
    exact ⟨x, hx, beq_iff_eq.mp (show ((x : Int) == n) = true from e)⟩
  · rintro ⟨m, hm, rfl⟩
    exact ⟨V.int m, List.mem_map.mpr ⟨m, hm, rfl⟩, show ((m : Int) == (m : Int)) = true from beq_self_eq_true _⟩
theorem inNatF {l : List Nat} {n : Int} (h : inV (.int n) (l.map fun i : Nat => V.int (i : Int)) = false) : ¬ ∃ c ∈ l, ((c : Nat) : Int) = n := fun q => by
  rw [inNat.mpr q] at h; cases h
/-- the first place of a parcel -/
def Fst (l : List (Option Nat)) (m b : Nat) : Prop := l[b]? = some (some m) ∧ ∀ c, c < b → l[c]? ≠ some (some m)
theorem fst_of {m : Nat} : ∀ {l : List (Option Nat)}, some m ∈ l → ∃ b, Fst l m b
  | x :: l, h => by
    by_cases e : x = some m
    · exact ⟨0, by rw [e]; rfl, fun c hc => absurd hc (Nat.not_lt_zero c)⟩
    · have h' : some m ∈ l := by
        rcases List.mem_cons.mp h with q | q
        · exact absurd q.symm e
        · exact q
      obtain ⟨b, h1, h2⟩ := fst_of h'
      refine ⟨b + 1, h1, fun c hc => ?_⟩
      cases c with
      | zero => intro q; exact e (Option.some.inj q)
      | succ c => exact h2 c (Nat.lt_of_succ_lt_succ hc)
theorem Fst.uniq {l : List (Option Nat)} {m b c : Nat} (h : Fst l m b) (h' : Fst l m c) : b = c := by
  rcases Nat.lt_trichotomy b c with q | q | q
  · exact absurd h.1 (h'.2 b q)
  · exact q
  · exact absurd h'.1 (h.2 c q)
theorem Fst.lt {l : List (Option Nat)} {m b : Nat} (h : Fst l m b) : b < l.length := getLt h.1
theorem Fst.mem {l : List (Option Nat)} {m b : Nat} (h : Fst l m b) : some m ∈ l := List.mem_of_getElem? h.1
theorem Fst.idx {l : List (Option Nat)} {m b : Nat} (h : Fst l m b) : (l.map optV)[b]? = some (V.int (m : Int)) ∧ eqV (V.int (m : Int)) (V.int (m : Int)) = true ∧ ∀ (c : Nat) (z : V), c < b → (l.map optV)[c]? = some z → eqV z (V.int (m : Int)) = false := by
  refine ⟨getMap h.1, show ((m : Int) == (m : Int)) = true from beq_self_eq_true _, fun c z hc hz => ?_⟩
  obtain ⟨x, hx, rfl⟩ := mapGet hz
  cases x with
  | none => rfl
  | some k =>
    show ((k : Int) == (m : Int)) = false
    rw [beq_eq_false_iff_ne]
    intro e
    have e : k = m := by omega
    subst e
    exact h.2 c hc hx
def WS.ins (s : WS) (l : List (Option Nat)) : WS := { s with inside := l }
def WS.on (s : WS) (d : Int) : WS := { s with today := d }
theorem WallAt.insUpd {K : PySem.W.Frag} {H : Hp} {s : WS} (A : WallAt K H s) {l : List (Option Nat)} (hl : l.length = s.sizes.length) (nb : ∀ (j n : Nat), l[j]? = some (some n) → n < s.parcels.length) : WallAt K (upd H s.l2 (.lst (l.map optV))) (s.ins l) :=
  ⟨by show upd _ s.l2 _ s.w = _; rw [upd_ne (ne_of A.ob A.is (by intro q; cases q))]; exact A.ob,
   by show upd _ s.l2 _ s.l1 = _; rw [upd_ne A.n12]; exact A.bx,
   upd_same,
   let ⟨ts, h1, h2, h3⟩ := A.ps; ⟨ts, by show upd _ s.l2 _ s.l3 = _; rw [upd_ne (Ne.symm A.n23)]; exact h1, h2, fun j t q => by rw [upd_ne (ne_of (h3 j t q) A.is (by intro q; cases q))]; exact h3 j t q⟩,
   A.n12, A.n13, A.n23, hl, A.l8, A.pl, nb⟩
theorem WallAt.dayUpd {K : PySem.W.Frag} {H : Hp} {s : WS} (A : WallAt K H s) (d : Int) : WallAt K (upd H s.w (.ins (He.ga K "Wall") s.dx (wf s.l1 s.l2 s.l3 d))) (s.on d) :=
  ⟨upd_same,
   by show upd _ s.w _ s.l1 = _; rw [upd_ne (ne_of A.bx A.ob (by intro q; cases q))]; exact A.bx,
   by show upd _ s.w _ s.l2 = _; rw [upd_ne (ne_of A.is A.ob (by intro q; cases q))]; exact A.is,
   let ⟨ts, h1, h2, h3⟩ := A.ps; ⟨ts, by show upd _ s.w _ s.l3 = _; rw [upd_ne (ne_of h1 A.ob (by intro q; cases q))]; exact h1, h2, fun j t q => by rw [upd_ne (ne_of (h3 j t q) A.ob (by intro q; cases q))]; exact h3 j t q⟩,
   A.n12, A.n13, A.n23, A.len, A.l8, A.pl, A.nb⟩
theorem nbSet {l : List (Option Nat)} {k b : Nat} {x : Option Nat} (h : ∀ (j n : Nat), l[j]? = some (some n) → n < k) (hx : ∀ n, x = some n → n < k) : ∀ (j n : Nat), (l.set b x)[j]? = some (some n) → n < k := by
  intro j n hn
  rw [List.getElem?_set] at hn
  split at hn
  · split at hn
    · exact hx n (Option.some.inj hn)
    · cases hn
  · exact h j n hn
theorem WallAt.tup {K : PySem.W.Frag} {H : Hp} {s : WS} (A : WallAt K H s) {m : Nat} (h : m < s.parcels.length) : ∃ (ts : List Addr) (t : Addr), H s.l3 = some (.lst (ts.map V.ref)) ∧ ts.length = s.parcels.length ∧ atI (ts.map V.ref) (m : Int) = some (.ref t) ∧
    H t = some (.tup [.int (s.parcels.getD m (0, 0)).1, .int (s.parcels.getD m (0, 0)).2]) := by
  obtain ⟨ts, h1, h2, h3⟩ := A.ps
  obtain ⟨t, ht⟩ := getOf (xs := ts) (i := m) (by omega)
  exact ⟨ts, t, h1, h2, at_of (j := m) rfl (getMap ht), h3 m t ht⟩
theorem WallAt.mem_lt {K : PySem.W.Frag} {H : Hp} {s : WS} (A : WallAt K H s) {m : Nat} (h : some m ∈ s.inside) : m < s.parcels.length := by
  obtain ⟨b, hb⟩ := fst_of h
  exact A.nb b m hb.1
/-! ### a night -/
def dueB (ps : List (Int × Int)) (day : Int) : Option Nat → Bool
  | none => false
  | some m => decide ((ps.getD m (0, 0)).2 ≤ day)
def nightF (ps : List (Int × Int)) (day : Int) (x : Option Nat) : Option Nat := if dueB ps day x = true then none else x
def backOf (ps : List (Int × Int)) (day : Int) (l : List (Option Nat)) : List Int := (l.filter (dueB ps day)).map fun x => ((x.getD 0 : Nat) : Int)
theorem nightStep {α : Type} {f : α → α} : ∀ {l : List α} {i : Nat} {x : α}, l[i]? = some x → ((l.take i).map f ++ l.drop i).set i (f x) = (l.take (i + 1)).map f ++ l.drop (i + 1)
  | [], i, x, h => by simp at h
  | a :: l, 0, x, h => by
    have e : a = x := Option.some.inj h
    subst e; rfl
  | a :: l, i + 1, x, h => by
    have ih := nightStep (f := f) (l := l) (i := i) (x := x) h
    show f a :: (((l.take i).map f ++ l.drop i).set i (f x)) = f a :: ((l.take (i + 1)).map f ++ l.drop (i + 1))
    rw [ih]
theorem nightAt {α : Type} {f : α → α} : ∀ {l : List α} {i : Nat}, ((l.take i).map f ++ l.drop i)[i]? = l[i]?
  | [], i => by simp
  | a :: l, 0 => rfl
  | a :: l, i + 1 => nightAt (f := f) (l := l) (i := i)
theorem setSame {α : Type} : ∀ {l : List α} {i : Nat} {x : α}, l[i]? = some x → l.set i x = l
  | [], _, _, h => by simp at h
  | a :: l, 0, x, h => by
    have e : a = x := Option.some.inj h
    subst e; rfl
  | a :: l, i + 1, x, h => by
    have ih := setSame (l := l) (i := i) (x := x) h
    show a :: l.set i x = a :: l
    rw [ih]
def WS.nighted (s : WS) : WS := { s with inside := s.inside.map (nightF s.parcels (s.today + 1)), today := s.today + 1 }
theorem nightF_some {ps : List (Int × Int)} {day : Int} {x : Option Nat} {n : Nat} (h : nightF ps day x = some n) : x = some n := by
  unfold nightF at h
  split at h
  · cases h
  · exact h
end Pw
namespace Pw
def FillOk (sizes : List Int) (xs : List (Option Nat)) : Prop := xs.length = sizes.length ∧ ∀ (b v : Nat), xs[b]? = some (some v) → 1 ≤ v ∧ (v : Int) ≤ sizes.getD b 0
theorem cntSet {n : Nat} : ∀ {l : List (Option Nat)} {b : Nat}, l[b]? = some none → ((l.set b (some n)).filter Option.isSome).length = (l.filter Option.isSome).length + 1
  | [], b, h => by simp at h
  | x :: l, 0, h => by
    have e : x = none := Option.some.inj h
    subst e
    simp
  | x :: l, b + 1, h => by
    have ih := cntSet (n := n) (l := l) (b := b) h
    show ((x :: l.set b (some n)).filter Option.isSome).length = _
    rw [List.filter_cons, List.filter_cons]
    split
    · rw [List.length_cons, List.length_cons, ih]
    · exact ih
/-- the wall that is made of drawn parcels, while it is made -/
structure SI (sizes : List Int) (inside : List (Option Nat)) (dn : List Nat) (is : List (Option Nat)) (ps : List (Int × Int)) : Prop where
  len : is.length = sizes.length
  non : ∀ b ∈ dn, inside[b]? = some none → is[b]? = some none
  som : ∀ b ∈ dn, ∀ v, inside[b]? = some (some v) → ∃ m, is[b]? = some (some m) ∧ 1 ≤ m ∧ ps.getD m (0, 0) = ((v : Int), 9)
  oth : ∀ b, b < sizes.length → b ∉ dn → is[b]? = some none
  dis : ∀ b c m : Nat, is[b]? = some (some m) → is[c]? = some (some m) → b = c
  cnt : ps.length = 1 + (is.filter Option.isSome).length
  nb : ∀ (j n : Nat), is[j]? = some (some n) → n < ps.length
theorem SI.start {sizes : List Int} {inside : List (Option Nat)} {p : Int × Int} : SI sizes inside [] (List.replicate sizes.length none) [p] := by
  have g : ∀ (j : Nat) (x : Option Nat), (List.replicate sizes.length (none : Option Nat))[j]? = some x → x = none := fun j x h => by
    have := List.mem_of_getElem? h
    exact (List.mem_replicate.mp this).2
  refine ⟨by simp, fun b hb => (by cases hb), fun b hb => (by cases hb), fun b hb _ => ?_, fun b c m h => ?_, ?_, fun j n h => ?_⟩
  · rw [List.getElem?_replicate, if_pos hb]
  · have := g _ _ h; cases this
  · simp
  · have := g _ _ h; cases this
theorem SI.skip {sizes : List Int} {inside : List (Option Nat)} {dn : List Nat} {is : List (Option Nat)} {ps : List (Int × Int)} (g : SI sizes inside dn is ps) {b : Nat} (h : inside[b]? = some none) (nd : b ∉ dn) (hb : b < sizes.length) : SI sizes inside (dn ++ [b]) is ps := by
  refine ⟨g.len, fun c hc hi => ?_, fun c hc v hi => ?_, fun c hc hn => g.oth c hc fun q => hn (List.mem_append_left _ q), g.dis, g.cnt, g.nb⟩
  · rcases List.mem_append.mp hc with q | q
    · exact g.non c q hi
    · rw [List.mem_singleton.mp q]; exact g.oth b hb nd
  · rcases List.mem_append.mp hc with q | q
    · exact g.som c q v hi
    · rw [List.mem_singleton.mp q, h] at hi; cases hi
theorem SI.put {sizes : List Int} {inside : List (Option Nat)} {dn : List Nat} {is : List (Option Nat)} {ps : List (Int × Int)} (g : SI sizes inside dn is ps) {b v : Nat} (h : inside[b]? = some (some v)) (nd : b ∉ dn) (hb : b < sizes.length) :
    SI sizes inside (dn ++ [b]) (is.set b (some ps.length)) (ps ++ [((v : Int), 0 + 9)]) := by
  have hn := g.oth b hb nd
  have bl := getLt hn
  have gd : ∀ m, m < ps.length → (ps ++ [((v : Int), (0 : Int) + 9)]).getD m (0, 0) = ps.getD m (0, 0) := fun m hm => by
    rw [List.getD_eq_getElem?_getD, List.getD_eq_getElem?_getD, List.getElem?_append_left hm]
  have ne : ∀ c, c ≠ b → (is.set b (some ps.length))[c]? = is[c]? := fun c hc => List.getElem?_set_ne (Ne.symm hc)
  have at_ : (is.set b (some ps.length))[b]? = some (some ps.length) := List.getElem?_set_self bl
  refine ⟨by rw [List.length_set]; exact g.len, fun c hc hi => ?_, fun c hc w hi => ?_, fun c hc hc2 => ?_, fun c e m h1 h2 => ?_, ?_, fun j n hj => ?_⟩
  · rcases List.mem_append.mp hc with q | q
    · rw [ne c fun e => nd (e ▸ q)]; exact g.non c q hi
    · rw [List.mem_singleton.mp q, h] at hi; cases hi
  · rcases List.mem_append.mp hc with q | q
    · obtain ⟨m, m1, m2, m3⟩ := g.som c q w hi
      refine ⟨m, by rw [ne c fun e => nd (e ▸ q)]; exact m1, m2, by rw [gd m (g.nb c m m1)]; exact m3⟩
    · have e := List.mem_singleton.mp q
      subst e
      rw [h] at hi
      cases hi
      have := g.cnt
      refine ⟨ps.length, at_, by omega, ?_⟩
      rw [List.getD_eq_getElem?_getD, List.getElem?_append_right (Nat.le_refl _), Nat.sub_self]
      rfl
  · have q1 : c ∉ dn := fun q => hc2 (List.mem_append_left _ q)
    have q2 : c ≠ b := fun q => hc2 (List.mem_append_right _ (by rw [q]; exact List.mem_singleton_self _))
    rw [ne c q2]; exact g.oth c hc q1
  · by_cases c1 : c = b
    · subst c1
      rw [at_] at h1
      cases h1
      by_cases c2 : e = c
      · exact c2.symm
      · rw [ne e c2] at h2
        have := g.nb _ _ h2
        omega
    · rw [ne c c1] at h1
      by_cases c2 : e = b
      · subst c2
        rw [at_] at h2
        cases h2
        have := g.nb _ _ h1
        omega
      · rw [ne e c2] at h2
        exact g.dis c e m h1 h2
  · rw [List.length_append, cntSet hn, g.cnt]; rfl
  · rw [List.length_append]
    by_cases c1 : j = b
    · subst c1
      rw [at_] at hj
      cases hj
      show _ < _ + 1
      omega
    · rw [ne j c1] at hj
      have := g.nb _ _ hj
      show _ < _ + 1
      omega
/-- the wall of drawn parcels -/
structure Side (sizes : List Int) (inside : List (Option Nat)) (s : WS) : Prop where
  sz : s.sizes = sizes
  td : s.today = 0
  non : ∀ b : Nat, inside[b]? = some none → s.inside[b]? = some none
  som : ∀ b v : Nat, inside[b]? = some (some v) → ∃ m, s.inside[b]? = some (some m) ∧ 1 ≤ m ∧ s.parcels.getD m (0, 0) = ((v : Int), 9)
  dis : ∀ b c m : Nat, s.inside[b]? = some (some m) → s.inside[c]? = some (some m) → b = c
  cnt : s.parcels.length = 1 + (s.inside.filter Option.isSome).length
theorem SI.side {sizes : List Int} {inside : List (Option Nat)} {dn : List Nat} {is : List (Option Nat)} {ps : List (Int × Int)} (g : SI sizes inside dn is ps) (fo : FillOk sizes inside) (all : ∀ b, b < sizes.length → b ∈ dn) {w dx l1 l2 l3 : Addr} : Side sizes inside ⟨w, dx, l1, l2, l3, sizes, is, ps, 0⟩ :=
  ⟨rfl, rfl, fun b h => g.non b (all b (by have := getLt h; have := fo.1; omega)) h, fun b v h => g.som b (all b (by have := getLt h; have := fo.1; omega)) v h, g.dis, g.cnt⟩
theorem fst_new {l : List (Option Nat)} {n b : Nat} (h : ∀ (j m : Nat), l[j]? = some (some m) → m < n) (hb : b < l.length) : Fst (l.set b (some n)) n b := by
  refine ⟨List.getElem?_set_self hb, fun c hc q => ?_⟩
  rw [List.getElem?_set_ne (by omega)] at q
  have := h _ _ q
  omega
theorem rgNat (n : Nat) : rgV 0 (n : Int) = (List.range n).map fun i : Nat => V.int (i : Int) := by
  unfold rgV
  rw [show ((n : Int) - 0).toNat = n by omega]
  exact List.map_congr_left fun i _ => by rw [show (0 : Int) + (i : Int) = (i : Int) by omega]
end Pw
namespace Pw
theorem cntUnset : ∀ {l : List (Option Nat)} {b m : Nat}, l[b]? = some (some m) → ((l.set b none).filter Option.isSome).length + 1 = (l.filter Option.isSome).length
  | [], b, m, h => by simp at h
  | x :: l, 0, m, h => by
    have e : x = some m := Option.some.inj h
    subst e
    simp
  | x :: l, b + 1, m, h => by
    have ih := cntUnset (l := l) (b := b) h
    show ((x :: l.set b none).filter Option.isSome).length + 1 = _
    rw [List.filter_cons, List.filter_cons]
    split
    · rw [List.length_cons, List.length_cons, ih]
    · exact ih
theorem Side.at_ {sizes : List Int} {xs : List (Option Nat)} {s : WS} (g : Side sizes xs s) (hl : xs.length = s.inside.length) {b m : Nat} (h : s.inside[b]? = some (some m)) : ∃ v : Nat, xs[b]? = some (some v) ∧ s.parcels.getD m (0, 0) = ((v : Int), 9) := by
  have bl := getLt h
  obtain ⟨y, hy⟩ := getOf (xs := xs) (i := b) (by omega)
  cases y with
  | none => rw [g.non b hy] at h; cases h
  | some v =>
    obtain ⟨m', h1, h2, h3⟩ := g.som b v hy
    rw [h1] at h
    cases h
    exact ⟨v, hy, h3⟩
theorem Side.move {sizes : List Int} {xs : List (Option Nat)} {s : WS} (g : Side sizes xs s) {m b c v : Nat} (hb : s.inside[b]? = some (some m)) (hv : xs[b]? = some (some v)) (hc : s.inside[c]? = some none) (hcx : c < xs.length) :
    Side sizes ((xs.set c (some v)).set b none) (s.ins ((s.inside.set b none).set c (some m))) := by
  have hne : b ≠ c := fun e => by rw [e, hc] at hb; cases hb
  have bl := getLt hb
  have cl := getLt hc
  have bx := getLt hv
  have i1 : ((s.inside.set b none).set c (some m))[c]? = some (some m) := List.getElem?_set_self (by rw [List.length_set]; exact cl)
  have i2 : ((s.inside.set b none).set c (some m))[b]? = some none := by rw [List.getElem?_set_ne (Ne.symm hne)]; exact List.getElem?_set_self bl
  have i3 : ∀ j, j ≠ b → j ≠ c → ((s.inside.set b none).set c (some m))[j]? = s.inside[j]? := fun j h1 h2 => by rw [List.getElem?_set_ne (Ne.symm h2), List.getElem?_set_ne (Ne.symm h1)]
  have x1 : ((xs.set c (some v)).set b none)[c]? = some (some v) := by rw [List.getElem?_set_ne hne]; exact List.getElem?_set_self hcx
  have x2 : ((xs.set c (some v)).set b none)[b]? = some none := List.getElem?_set_self (by rw [List.length_set]; exact bx)
  have x3 : ∀ j, j ≠ b → j ≠ c → ((xs.set c (some v)).set b none)[j]? = xs[j]? := fun j h1 h2 => by rw [List.getElem?_set_ne (Ne.symm h1), List.getElem?_set_ne (Ne.symm h2)]
  obtain ⟨m', q1, q2, q3⟩ := g.som b v hv
  rw [hb] at q1
  cases q1
  refine ⟨g.sz, g.td, fun j h => ?_, fun j w h => ?_, fun j k n h1 h2 => ?_, ?_⟩
  · show ((s.inside.set b none).set c (some m))[j]? = some none
    by_cases e1 : j = b
    · rw [e1]; exact i2
    · by_cases e2 : j = c
      · rw [e2, x1] at h; cases h
      · rw [i3 j e1 e2]; rw [x3 j e1 e2] at h; exact g.non j h
  · show ∃ n, ((s.inside.set b none).set c (some m))[j]? = some (some n) ∧ 1 ≤ n ∧ s.parcels.getD n (0, 0) = _
    by_cases e1 : j = b
    · rw [e1, x2] at h; cases h
    · by_cases e2 : j = c
      · rw [e2, x1] at h
        cases h
        exact ⟨m, by rw [e2]; exact i1, q2, q3⟩
      · rw [x3 j e1 e2] at h
        rw [i3 j e1 e2]
        exact g.som j w h
  · have h1 : ((s.inside.set b none).set c (some m))[j]? = some (some n) := h1
    have h2 : ((s.inside.set b none).set c (some m))[k]? = some (some n) := h2
    have key : ∀ j, ((s.inside.set b none).set c (some m))[j]? = some (some n) → (j = c ∧ n = m) ∨ (j ≠ b ∧ s.inside[j]? = some (some n)) := fun j h => by
      by_cases e1 : j = b
      · rw [e1, i2] at h; cases h
      · by_cases e2 : j = c
        · rw [e2, i1] at h; cases h; exact .inl ⟨e2, rfl⟩
        · rw [i3 j e1 e2] at h; exact .inr ⟨e1, h⟩
    rcases key j h1 with ⟨a, e⟩ | ⟨a, e⟩ <;> rcases key k h2 with ⟨a', e'⟩ | ⟨a', e'⟩
    · rw [a, a']
    · subst e; exact absurd (g.dis k b n e' hb) a'
    · subst e'; exact absurd (g.dis j b n e hb) a
    · exact g.dis j k n e e'
  · show s.parcels.length = 1 + (((s.inside.set b none).set c (some m)).filter Option.isSome).length
    have hc' : (s.inside.set b none)[c]? = some none := by rw [List.getElem?_set_ne hne]; exact hc
    have := cntUnset hb
    rw [cntSet hc', g.cnt]
    omega
end Pw
namespace Pw
theorem inNon {l : List (Option Nat)} : inV .non (l.map optV) = true ↔ none ∈ l := by
  unfold inV
  rw [List.any_eq_true]
  constructor
  · rintro ⟨y, hy, e⟩
    obtain ⟨x, hx, rfl⟩ := List.mem_map.mp hy
    cases x with
    | none => exact hx
    | some m => exact absurd (show false = true from e) Bool.false_ne_true
  · intro h
    exact ⟨V.non, List.mem_map.mpr ⟨none, h, rfl⟩, rfl⟩
end Pw
namespace Pw
/-! ### the boxes that are reached -/
theorem nodup_le : ∀ (n : Nat) (l : List Nat), l.Nodup → (∀ x ∈ l, x < n) → l.length ≤ n
  | 0, l, _, h => by
    cases l with
    | nil => exact Nat.le_refl _
    | cons x r => have := h x List.mem_cons_self; omega
  | n + 1, l, nd, h => by
    have ih := nodup_le n (l.erase n) (nd.erase n) fun x hx => by
      have q := nd.mem_erase_iff.mp hx
      have := h x q.2
      have := q.1
      omega
    rw [List.length_erase] at ih
    split at ih <;> omega
def qk (qb : List (Nat × Option Nat)) : List (Key × V) := qb.map fun e => (Sum.inl (e.1 : Int), optV e.2)
theorem qk_len (qb : List (Nat × Option Nat)) : (qk qb).length = qb.length := by unfold qk; rw [List.length_map]
theorem valQ_none : ∀ {qb : List (Nat × Option Nat)} {b : Nat}, b ∉ qb.map Prod.fst → valV (qk qb) (Sum.inl (b : Int)) = none
  | [], _, _ => rfl
  | e :: r, b, h => by
    have h1 : b ≠ e.1 := fun q => h (by rw [q]; exact List.mem_cons_self)
    have h2 : b ∉ r.map Prod.fst := fun q => h (List.mem_cons_of_mem _ q)
    show valV ((Sum.inl (e.1 : Int), optV e.2) :: qk r) _ = none
    rw [valV_neg (by intro q; have := Sum.inl.inj q; omega), valQ_none h2]
theorem valQ_some : ∀ {qb : List (Nat × Option Nat)} {i b : Nat} {p : Option Nat}, (qb.map Prod.fst).Nodup → qb[i]? = some (b, p) → valV (qk qb) (Sum.inl (b : Int)) = some (optV p)
  | [], i, b, p, _, h => by simp at h
  | e :: r, 0, b, p, _, h => by
    have q : e = (b, p) := Option.some.inj h
    subst q
    exact valV_pos rfl
  | e :: r, i + 1, b, p, nd, h => by
    have h : r[i]? = some (b, p) := h
    have nd2 := (List.nodup_cons.mp nd).2
    have hne := (List.nodup_cons.mp nd).1
    have hm : b ∈ r.map Prod.fst := List.mem_map.mpr ⟨_, List.mem_of_getElem? h, rfl⟩
    show valV ((Sum.inl (e.1 : Int), optV e.2) :: qk r) _ = _
    rw [valV_neg (by intro q; have := Sum.inl.inj q; exact hne (by rw [show e.1 = b by omega]; exact hm))]
    exact valQ_some nd2 h
theorem qk_put {qb : List (Nat × Option Nat)} {b : Nat} {p : Option Nat} (h : b ∉ qb.map Prod.fst) : putK (qk qb) (Sum.inl (b : Int)) (optV p) = qk (qb ++ [(b, p)]) := by
  rw [putK_new _ (valQ_none h)]
  unfold qk
  rw [List.map_append]; rfl
theorem dget_none {H : Hp} {d : Addr} {qb : List (Nat × Option Nat)} {b : Nat} (e : H d = some (.dK (qk qb))) (h : b ∉ qb.map Prod.fst) : DGet H d (.int (b : Int)) none := by
  have := DGet.k (k := Sum.inl (b : Int)) e
  rw [valQ_none h] at this
  exact this
theorem dget_some {H : Hp} {d : Addr} {qb : List (Nat × Option Nat)} {i b : Nat} {p : Option Nat} (e : H d = some (.dK (qk qb))) (nd : (qb.map Prod.fst).Nodup) (h : qb[i]? = some (b, p)) : DGet H d (.int (b : Int)) (some (optV p)) := by
  have := DGet.k (k := Sum.inl (b : Int)) e
  rw [valQ_some nd h] at this
  exact this
theorem dput_new {H : Hp} {d : Addr} {qb : List (Nat × Option Nat)} {b : Nat} {p : Option Nat} (e : H d = some (.dK (qk qb))) (h : b ∉ qb.map Prod.fst) (hl : qb.length < 100000) : DPut H d (.int (b : Int)) (optV p) (upd H d (.dK (qk (qb ++ [(b, p)])))) := by
  have := DPut.k (k := Sum.inl (b : Int)) (v := optV p) e (by rw [qk_len]; exact szLt hl)
  rw [qk_put h] at this
  exact this
structure BF (s : WS) (size : Int) (qb : List (Nat × Option Nat)) (dn : Nat) : Prop where
  nd : (qb.map Prod.fst).Nodup
  lt : ∀ b ∈ qb.map Prod.fst, b < s.sizes.length
  root : ∀ i b : Nat, qb[i]? = some (b, none) → size ≤ s.sizes.getD b 0
  par : ∀ i b j : Nat, qb[i]? = some (b, some j) → ∃ k p m, k < i ∧ qb[k]? = some (j, p) ∧ s.inside[j]? = some (some m) ∧ (s.parcels.getD m (0, 0)).1 ≤ s.sizes.getD b 0
  all : ∀ b, b < s.sizes.length → size ≤ s.sizes.getD b 0 → b ∈ qb.map Prod.fst
  cl : ∀ (i j : Nat) (p : Option Nat) (m : Nat), i < dn → qb[i]? = some (j, p) → s.inside[j]? = some (some m) → ∀ b, b < s.sizes.length → (s.parcels.getD m (0, 0)).1 ≤ s.sizes.getD b 0 → b ∈ qb.map Prod.fst
  dl : dn ≤ qb.length
  rf : ∀ i k b c j : Nat, qb[i]? = some (b, none) → qb[k]? = some (c, some j) → i < k
  ro : ∀ i b j : Nat, qb[i]? = some (b, some j) → s.sizes.getD b 0 < size
theorem BF.len {s : WS} {size : Int} {qb : List (Nat × Option Nat)} {dn : Nat} (g : BF s size qb dn) : qb.length ≤ s.sizes.length := by
  have := nodup_le _ _ g.nd g.lt
  rw [List.length_map] at this
  exact this
theorem BF.start {s : WS} {size : Int} : BF s size (((List.range s.sizes.length).filter fun b => decide (size ≤ s.sizes.getD b 0)).map fun b => (b, none)) 0 := by
  have e : ((((List.range s.sizes.length).filter fun b => decide (size ≤ s.sizes.getD b 0)).map fun b => (b, (none : Option Nat))).map Prod.fst) = (List.range s.sizes.length).filter fun b => decide (size ≤ s.sizes.getD b 0) := by
    rw [List.map_map]
    exact List.map_id _
  have at_ : ∀ (i b : Nat) (p : Option Nat), (((List.range s.sizes.length).filter fun b => decide (size ≤ s.sizes.getD b 0)).map fun b => (b, (none : Option Nat)))[i]? = some (b, p) → p = none ∧ size ≤ s.sizes.getD b 0 := fun i b p h => by
    obtain ⟨c, hc, q⟩ := List.mem_map.mp (List.mem_of_getElem? h)
    cases q
    exact ⟨rfl, of_decide_eq_true (List.mem_filter.mp hc).2⟩
  refine ⟨by rw [e]; exact List.Pairwise.filter _ List.nodup_range, fun b hb => ?_, fun i b h => (at_ i b _ h).2, fun i b j h => ?_, fun b h1 h2 => ?_, fun i j p m h => absurd h (Nat.not_lt_zero i), Nat.zero_le _, fun i k b c j _ h => ?_, fun i b j h => ?_⟩
  · rw [e] at hb
    exact List.mem_range.mp (List.mem_filter.mp hb).1
  · have := (at_ i b _ h).1; cases this
  · rw [e]
    exact List.mem_filter.mpr ⟨List.mem_range.mpr h1, decide_eq_true h2⟩
  · have := (at_ k c _ h).1; cases this
  · have := (at_ i b _ h).1; cases this
theorem getSnoc {α : Type} {l : List α} {x y : α} {i : Nat} (h : (l ++ [x])[i]? = some y) : l[i]? = some y ∨ (i = l.length ∧ y = x) := by
  by_cases c : i < l.length
  · rw [List.getElem?_append_left c] at h; exact .inl h
  · rw [List.getElem?_append_right (by omega)] at h
    have := getLt h
    rw [List.length_singleton] at this
    have e : i - l.length = 0 := by omega
    rw [e] at h
    exact .inr ⟨by omega, (Option.some.inj h).symm⟩
theorem getOld {α : Type} {l : List α} {x y : α} {i : Nat} (h : l[i]? = some y) : (l ++ [x])[i]? = some y := by rw [List.getElem?_append_left (getLt h)]; exact h
theorem BF.add {s : WS} {size : Int} {qb : List (Nat × Option Nat)} {dn : Nat} (g : BF s size qb dn) {i0 j m b : Nat} {p : Option Nat} (hj : qb[i0]? = some (j, p)) (hm : s.inside[j]? = some (some m)) (hb : b < s.sizes.length) (hle : (s.parcels.getD m (0, 0)).1 ≤ s.sizes.getD b 0) (hn : b ∉ qb.map Prod.fst) :
    BF s size (qb ++ [(b, some j)]) dn := by
  have e : (qb ++ [(b, some j)]).map Prod.fst = qb.map Prod.fst ++ [b] := by rw [List.map_append]; rfl
  have mo : ∀ c, c ∈ qb.map Prod.fst → c ∈ (qb ++ [(b, some j)]).map Prod.fst := fun c hc => by rw [e]; exact List.mem_append_left _ hc
  refine ⟨?_, fun c hc => ?_, fun i c h => ?_, fun i c k h => ?_, fun c h1 h2 => mo c (g.all c h1 h2), fun i k q m' hi h hm' c h1 h2 => ?_, by rw [List.length_append]; have := g.dl; omega, fun i k a c t h1 h2 => ?_, fun i a t h => ?_⟩
  · rw [e]
    refine List.nodup_append.mpr ⟨g.nd, by simp, fun x hx y hy q => ?_⟩
    rw [List.mem_singleton.mp hy] at q
    exact hn (q ▸ hx)
  · rw [e] at hc
    rcases List.mem_append.mp hc with q | q
    · exact g.lt c q
    · rw [List.mem_singleton.mp q]; exact hb
  · rcases getSnoc h with q | ⟨_, q⟩
    · exact g.root i c q
    · cases q
  · rcases getSnoc h with q | ⟨q1, q⟩
    · obtain ⟨k', p', m', h1, h2, h3, h4⟩ := g.par i c k q
      exact ⟨k', p', m', h1, getOld h2, h3, h4⟩
    · cases q
      exact ⟨i0, p, m, by rw [q1]; exact getLt hj, getOld hj, hm, hle⟩
  · rcases getSnoc h with q | ⟨q1, q⟩
    · exact mo c (g.cl i k _ m' hi q hm' c h1 h2)
    · have := g.dl; omega
  · rcases getSnoc h1 with q | ⟨_, q⟩
    · rcases getSnoc h2 with q' | ⟨q', _⟩
      · exact g.rf i k a c t q q'
      · rw [q']; exact getLt q
    · cases q
  · rcases getSnoc h with q | ⟨_, q⟩
    · exact g.ro i a t q
    · cases q
      apply Classical.byContradiction
      intro z
      exact hn (g.all b hb (by omega))
theorem BF.next {s : WS} {size : Int} {qb : List (Nat × Option Nat)} {dn : Nat} (g : BF s size qb dn) {j : Nat} {p : Option Nat} (hj : qb[dn]? = some (j, p)) (hc : ∀ m : Nat, s.inside[j]? = some (some m) → ∀ b, b < s.sizes.length → (s.parcels.getD m (0, 0)).1 ≤ s.sizes.getD b 0 → b ∈ qb.map Prod.fst) : BF s size qb (dn + 1) := by
  refine ⟨g.nd, g.lt, g.root, g.par, g.all, fun i k q m hi h hm b h1 h2 => ?_, by have := getLt hj; omega, g.rf, g.ro⟩
  by_cases c : i < dn
  · exact g.cl i k q m c h hm b h1 h2
  · have e : i = dn := by omega
    subst e
    rw [hj] at h
    cases h
    exact hc m hm b h1 h2
end Pw
namespace Pw
/-- the moves from an empty box back along the boxes that were reached -/
inductive Mv (s : WS) (ks : List Nat) (e : Nat) : List (Int × Int) → Nat → Prop
  | nil : Mv s ks e [] e
  | snoc {mv : List (Int × Int)} {b j m : Nat} : Mv s ks e mv b → s.inside[j]? = some (some m) → (s.parcels.getD m (0, 0)).1 ≤ s.sizes.getD b 0 → (∃ k i : Nat, k < i ∧ ks[k]? = some j ∧ ks[i]? = some b) → Mv s ks e (mv ++ [((m : Int), (b : Int))]) j
structure TooMany (s : WS) (size least : Int) (R : List Nat) : Prop where
  nd : R.Nodup
  iff : ∀ b, b ∈ R ↔ (b < s.sizes.length ∧ least ≤ s.sizes.getD b 0)
  full : ∀ b ∈ R, ∃ m, s.inside[b]? = some (some m) ∧ least ≤ (s.parcels.getD m (0, 0)).1
  le : least ≤ size
  is : least = size ∨ ∃ b ∈ R, ∃ m, s.inside[b]? = some (some m) ∧ least = (s.parcels.getD m (0, 0)).1
def psz (s : WS) (b : Nat) : Int := (s.parcels.getD ((s.inside.getD b none).getD 0) (0, 0)).1
theorem psz_of {s : WS} {b m : Nat} (h : s.inside[b]? = some (some m)) : psz s b = (s.parcels.getD m (0, 0)).1 := by
  have e : s.inside.getD b none = some m := by rw [List.getD_eq_getElem?_getD, h]; rfl
  unfold psz
  rw [e]; rfl
theorem headFirst {α : Type} {p : α → Bool} : ∀ {l : List α} {x : α} {r : List α}, l.filter p = x :: r → ∃ i : Nat, l[i]? = some x ∧ ∀ (k : Nat) (y : α), l[k]? = some y → p y = true → i ≤ k
  | [], x, r, h => by simp at h
  | a :: l, x, r, h => by
    rw [List.filter_cons] at h
    split at h
    · cases h
      exact ⟨0, rfl, fun k y _ _ => Nat.zero_le _⟩
    · rename_i hn
      obtain ⟨i, h1, h2⟩ := headFirst h
      refine ⟨i + 1, h1, fun k y hk hy => ?_⟩
      cases k with
      | zero =>
        have e : a = y := Option.some.inj hk
        subst e
        exact absurd hy hn
      | succ k => exact Nat.succ_le_succ (h2 k y hk hy)
theorem BF.many {s : WS} {size least : Int} {qb : List (Nat × Option Nat)} (g : BF s size qb qb.length) (hf : ∀ b ∈ qb.map Prod.fst, ∃ m, s.inside[b]? = some (some m)) (hm : least ∈ size :: (qb.map Prod.fst).map (psz s)) (hle : ∀ y ∈ size :: (qb.map Prod.fst).map (psz s), least ≤ y) : TooMany s size least (qb.map Prod.fst) := by
  have h1 : least ≤ size := hle size List.mem_cons_self
  have h2 : ∀ b ∈ qb.map Prod.fst, least ≤ psz s b := fun b hb => hle _ (List.mem_cons_of_mem _ (List.mem_map.mpr ⟨b, hb, rfl⟩))
  refine ⟨g.nd, fun b => ⟨fun hb => ⟨g.lt b hb, ?_⟩, fun ⟨hb, hl⟩ => ?_⟩, fun b hb => ?_, h1, ?_⟩
  · obtain ⟨⟨b', p⟩, he, eb⟩ := List.mem_map.mp hb
    have eb : b' = b := eb
    subst eb
    obtain ⟨i, hi, ei⟩ := List.getElem_of_mem he
    have hq : qb[i]? = some (b', p) := by rw [List.getElem?_eq_getElem hi, ei]
    cases p with
    | none => have := g.root i b' hq; omega
    | some j =>
      obtain ⟨k, p', m, k1, k2, k3, k4⟩ := g.par i b' j hq
      have := h2 j (List.mem_map.mpr ⟨_, List.mem_of_getElem? k2, rfl⟩)
      rw [psz_of k3] at this
      omega
  · rcases List.mem_cons.mp hm with e | e
    · exact g.all b hb (by omega)
    · obtain ⟨j, hj, ej⟩ := List.mem_map.mp e
      obtain ⟨m, hmj⟩ := hf j hj
      rw [psz_of hmj] at ej
      obtain ⟨⟨j', p⟩, he, e2⟩ := List.mem_map.mp hj
      have e2 : j' = j := e2
      subst e2
      obtain ⟨i, hi, ei⟩ := List.getElem_of_mem he
      exact g.cl i j' p m hi (by rw [List.getElem?_eq_getElem hi, ei]) hmj b hb (by omega)
  · obtain ⟨m, hmj⟩ := hf b hb
    have := h2 b hb
    rw [psz_of hmj] at this
    exact ⟨m, hmj, this⟩
  · rcases List.mem_cons.mp hm with e | e
    · exact .inl e
    · obtain ⟨j, hj, ej⟩ := List.mem_map.mp e
      obtain ⟨m, hmj⟩ := hf j hj
      rw [psz_of hmj] at ej
      exact .inr ⟨j, hj, m, hmj, ej.symm⟩
end Pw
namespace Pw
def geO (t : Int) : Option Int → Bool
  | some x => decide (t ≤ x)
  | none => false
/-- how many boxes hold a parcel as great -/
def cntO (os : List (Option Int)) (t : Int) : Nat := (os.filter (geO t)).length
theorem cntO_cons (o : Option Int) (os : List (Option Int)) (t : Int) : cntO (o :: os) t = (if geO t o = true then 1 else 0) + cntO os t := by
  unfold cntO
  by_cases h : geO t o = true
  · simp [h]; omega
  · simp [h]
theorem cntO_set {t x : Int} : ∀ {os : List (Option Int)} {b : Nat}, os[b]? = some none → cntO (os.set b (some x)) t = cntO os t + (if t ≤ x then 1 else 0)
  | [], b, h => by simp at h
  | o :: os, 0, h => by
    have e : o = none := Option.some.inj h
    subst e
    show cntO (some x :: os) t = _
    rw [cntO_cons, cntO_cons]
    by_cases c : t ≤ x
    · simp [geO, c]; omega
    · simp [geO, c]
  | o :: os, b + 1, h => by
    have ih := cntO_set (t := t) (x := x) (os := os) (b := b) (by simpa using h)
    show cntO (o :: os.set b (some x)) t = _
    rw [cntO_cons, cntO_cons, ih]; omega
theorem cntO_le {t : Int} : ∀ {sizes : List Int} {os : List (Option Int)}, os.length = sizes.length → (∀ b x, os[b]? = some (some x) → x ≤ sizes.getD b 0) → cntO os t ≤ cntGe sizes t
  | [], [], _, _ => Nat.le_refl _
  | z :: sizes, o :: os, hl, h => by
    have ih := cntO_le (t := t) (sizes := sizes) (os := os) (by simpa using hl) (fun b x e => by have := h (b + 1) x (by simpa using e); simpa using this)
    rw [cntO_cons, cntGe_cons]
    cases o with
    | none => simp [geO]; omega
    | some x =>
      have := h 0 x rfl
      have this : x ≤ z := this
      by_cases c : t ≤ x
      · rw [if_pos (by simp [geO, c]), if_pos (by omega)]; omega
      · rw [if_neg (by simp [geO, c])]; omega
theorem le_cntO {t : Int} : ∀ {sizes : List Int} {os : List (Option Int)}, os.length = sizes.length → (∀ b, b < sizes.length → t ≤ sizes.getD b 0 → ∃ x, os[b]? = some (some x) ∧ t ≤ x) → cntGe sizes t ≤ cntO os t
  | [], [], _, _ => Nat.le_refl _
  | z :: sizes, o :: os, hl, h => by
    have ih := le_cntO (t := t) (sizes := sizes) (os := os) (by simpa using hl) (fun b hb e => by
      obtain ⟨x, h1, h2⟩ := h (b + 1) (by simpa using hb) (by simpa using e)
      exact ⟨x, by simpa using h1, h2⟩)
    rw [cntO_cons, cntGe_cons]
    by_cases c : t ≤ z
    · obtain ⟨x, h1, h2⟩ := h 0 (by simp) c
      have e : o = some x := by simpa using h1
      subst e
      rw [if_pos c, if_pos (by simp [geO, h2])]; omega
    · rw [if_neg c]; omega
theorem cntGe_snoc (xs : List Int) (y t : Int) : cntGe (xs ++ [y]) t = cntGe xs t + (if t ≤ y then 1 else 0) := by
  induction xs with
  | nil => rw [List.nil_append, cntGe_cons]; show _ + 0 = 0 + _; omega
  | cons x r ih => rw [List.cons_append, cntGe_cons, cntGe_cons, ih]; omega
/-- parcels that came one after the other, each into the least box that holds it -/
structure Gr (sizes : List Int) (inside : List (Option Nat)) (ins : List Int) : Prop where
  ex : ∃ os : List (Option Int), inside.map Option.isSome = os.map Option.isSome ∧ os.length = sizes.length ∧ (∀ t, cntGe ins t = cntO os t) ∧ (∀ b x, os[b]? = some (some x) → x ≤ sizes.getD b 0) ∧
    (∀ b f x, os[b]? = some (some x) → os[f]? = some none → x ≤ sizes.getD f 0 → sizes.getD b 0 ≤ sizes.getD f 0)
theorem sameSome {inside : List (Option Nat)} {os : List (Option Int)} (h : inside.map Option.isSome = os.map Option.isSome) (b : Nat) : os[b]? = some none ↔ b ∈ freeL inside := by
  have e : (inside.map Option.isSome)[b]? = (os.map Option.isSome)[b]? := by rw [h]
  rw [List.getElem?_map, List.getElem?_map] at e
  rw [mem_free, List.getD_eq_getElem?_getD]
  by_cases hb : b < inside.length
  · rw [List.getElem?_eq_getElem hb] at e ⊢
    cases q : os[b]? with
    | none => rw [q] at e; cases e
    | some o =>
      rw [q] at e
      have e : inside[b].isSome = o.isSome := Option.some.inj e
      cases o with
      | none =>
        refine ⟨fun _ => ⟨hb, ?_⟩, fun _ => rfl⟩
        show inside[b] = none
        cases z : inside[b] with
        | none => rfl
        | some n => rw [z] at e; cases e
      | some x =>
        refine ⟨fun z => (by cases z), fun z => ?_⟩
        have z2 : inside[b] = none := z.2
        rw [z2] at e; cases e
  · refine ⟨fun z => ?_, fun z => absurd z.1 hb⟩
    rw [z] at e
    rw [List.getElem?_eq_none (by omega)] at e; cases e
theorem Gr.new {sizes : List Int} : Gr sizes (List.replicate sizes.length none) [] := by
  refine ⟨List.replicate sizes.length none, by simp, by simp, fun t => ?_, fun b x e => ?_, fun b f x e => ?_⟩
  · show 0 = _
    generalize sizes.length = n
    induction n with
    | zero => rfl
    | succ n ih => rw [List.replicate_succ, cntO_cons, ← ih]; rfl
  · rw [List.getElem?_replicate] at e; split at e <;> cases e
  · rw [List.getElem?_replicate] at e; split at e <;> cases e
theorem Gr.come {sizes : List Int} {inside : List (Option Nat)} {ins : List Int} (g : Gr sizes inside ins) {size : Int} {b n : Nat} (h : LB sizes (freeL inside) size b) : Gr sizes (inside.set b (some n)) (ins ++ [size]) := by
  obtain ⟨os, h1, h2, h3, h4, h5⟩ := g.ex
  have fb := (sameSome h1 b).mpr h.1
  have hb := getLt fb
  refine ⟨os.set b (some size), ?_, by rw [List.length_set]; exact h2, fun t => ?_, fun c x e => ?_, fun c f x e e2 hx => ?_⟩
  · rw [List.map_set, List.map_set, h1]; rfl
  · rw [cntGe_snoc, cntO_set fb, h3]
  · rw [List.getElem?_set] at e
    split at e
    · rename_i q
      subst q
      first | cases e | (rw [if_pos hb] at e; cases e)
      exact h.2.1
    · exact h4 c x e
  · have hf : os[f]? = some none := by
      rw [List.getElem?_set] at e2
      split at e2
      · first | cases e2 | (split at e2 <;> cases e2)
      · exact e2
    have ff := (sameSome h1 f).mp hf
    rw [List.getElem?_set] at e
    split at e
    · rename_i q
      subst q
      first | cases e | (rw [if_pos hb] at e; cases e)
      have := h.2.2 f ff hx
      omega
    · exact h5 c f x e hf hx
theorem Gr.fits {sizes : List Int} {inside : List (Option Nat)} {ins : List Int} (g : Gr sizes inside ins) (t : Int) : cntGe ins t ≤ cntGe sizes t := by
  obtain ⟨os, h1, h2, h3, h4, h5⟩ := g.ex
  rw [h3]
  exact cntO_le h2 h4
theorem least_thr {P : Int → Prop} : ∀ {n : Nat}, P ((n : Int) + 1) → ∃ t : Int, 1 ≤ t ∧ t ≤ (n : Int) + 1 ∧ P t ∧ (t = 1 ∨ ¬ P (t - 1))
  | 0, h => ⟨1, by omega, by omega, h, .inl rfl⟩
  | n + 1, h => by
    by_cases c : P ((n : Int) + 1)
    · obtain ⟨t, h1, h2, h3, h4⟩ := least_thr (n := n) c
      exact ⟨t, h1, by omega, h3, h4⟩
    · exact ⟨((n + 1 : Nat) : Int) + 1, by omega, by omega, h, .inr (by rw [show ((n + 1 : Nat) : Int) + 1 - 1 = (n : Int) + 1 by omega]; exact c)⟩
theorem Gr.full {sizes : List Int} {inside : List (Option Nat)} {ins : List Int} (g : Gr sizes inside ins) {size : Int} (h1 : 1 ≤ size) (h9 : size ≤ 9) (hi : ∀ x ∈ ins, 1 ≤ x)  (h : ∀ b ∈ freeL inside, sizes.getD b 0 < size) :
    ∃ t, 1 ≤ t ∧ t ≤ 9 ∧ cntGe sizes t < cntGe (ins ++ [size]) t := by
  obtain ⟨os, q1, q2, q3, q4, q5⟩ := g.ex
  obtain ⟨t, t1, t2, t3, t4⟩ := least_thr (P := fun t => ∀ b, os[b]? = some none → sizes.getD b 0 < t) (n := (size - 1).toNat) (fun b e => by have := h b ((sameSome q1 b).mp e); omega)
  refine ⟨t, t1, by omega, ?_⟩
  rw [cntGe_snoc, if_pos (by omega), q3]
  refine Nat.lt_succ_of_le (le_cntO q2 fun b hb ht => ?_)
  obtain ⟨o, ho⟩ := getOf (xs := os) (i := b) (by omega)
  cases o with
  | none => have := t3 b ho; omega
  | some x =>
    refine ⟨x, ho, ?_⟩
    rcases t4 with e | e
    · subst e
      have : 0 < cntO os x := by
        unfold cntO
        exact List.length_pos_of_mem (List.mem_filter.mpr ⟨List.mem_of_getElem? ho, by simp [geO]⟩)
      apply Classical.byContradiction
      intro c
      have a1 : cntGe ins 1 = ins.length := cntGe_all hi
      have a2 : cntGe ins x ≤ ins.length := cntGe_le _ _
      -- one that is less than 1 would be counted
      have a3 : cntO os 1 < cntO os x := by
        have key : ∀ (l : List (Option Int)), (some x ∈ l → cntO l 1 < cntO l x) ∧ cntO l 1 ≤ cntO l x := by
          intro l
          induction l with
          | nil => exact ⟨fun z => (by cases z), Nat.le_refl _⟩
          | cons o r ih =>
            rw [cntO_cons, cntO_cons]
            have m : (if geO 1 o = true then 1 else 0) ≤ (if geO x o = true then 1 else 0) := by
              cases o with
              | none => simp [geO]
              | some y =>
                by_cases c1 : (1 : Int) ≤ y
                · rw [if_pos (by simp [geO, c1]), if_pos (by simp [geO]; omega)]; exact Nat.le_refl _
                · rw [if_neg (by simp [geO, c1])]; exact Nat.zero_le _
            refine ⟨fun z => ?_, by have := ih.2; omega⟩
            rcases List.mem_cons.mp z with z | z
            · subst z
              rw [if_neg (by simp [geO]; omega), if_pos (by simp [geO])]
              have := ih.2; omega
            · have := ih.1 z; omega
        exact (key os).1 (List.mem_of_getElem? ho)
      rw [← q3, ← q3] at a3
      omega
    · apply Classical.byContradiction
      intro c
      apply e
      intro f hf
      have z1 := t3 f hf
      apply Classical.byContradiction
      intro c2
      have z := q5 b f x ho hf (by omega)
      omega
theorem Gr.count {sizes : List Int} {inside : List (Option Nat)} {ins : List Int} (g : Gr sizes inside ins) (hi : ∀ x ∈ ins, 1 ≤ x) : (inside.filter Option.isSome).length = ins.length := by
  obtain ⟨os, q1, q2, q3, q4, q5⟩ := g.ex
  have a : ∀ (l : List (Option Nat)) (m : List (Option Int)), l.map Option.isSome = m.map Option.isSome → (l.filter Option.isSome).length = (m.filter Option.isSome).length := by
    intro l
    induction l with
    | nil =>
      intro m e
      cases m with
      | nil => rfl
      | cons o m => cases e
    | cons x l ih =>
      intro m e
      cases m with
      | nil => cases e
      | cons o m =>
        rw [List.map_cons, List.map_cons] at e
        have e1 := (List.cons.inj e).1
        have e2 := ih m (List.cons.inj e).2
        cases x <;> cases o <;> simp_all
  rw [a _ _ q1]
  -- a number so small that all count
  have low : ∀ (m : List (Option Int)), ∃ z : Int, z ≤ 1 ∧ ∀ y, some y ∈ m → z ≤ y := by
    intro m
    induction m with
    | nil => exact ⟨1, by omega, fun y hy => by cases hy⟩
    | cons o m ih =>
      obtain ⟨z, h1, h2⟩ := ih
      cases o with
      | none => exact ⟨z, h1, fun y hy => h2 y (by simpa using hy)⟩
      | some w =>
        by_cases c : z ≤ w
        · refine ⟨z, h1, fun y hy => ?_⟩
          rcases List.mem_cons.mp hy with e | e
          · cases e; exact c
          · exact h2 y e
        · refine ⟨w, by omega, fun y hy => ?_⟩
          rcases List.mem_cons.mp hy with e | e
          · cases e; omega
          · have := h2 y e; omega
  obtain ⟨z, h1, h2⟩ := low os
  have b1 : cntO os z = (os.filter Option.isSome).length := by
    unfold cntO
    congr 1
    refine List.filter_congr fun o ho => ?_
    cases o with
    | none => rfl
    | some y => simp [geO, h2 y ho]
  rw [← b1, ← q3]
  exact cntGe_all fun y hy => by have := hi y hy; omega
end Pw
namespace Pw
/-! ### the moves, one after the other -/
inductive Fw (s : WS) (ks : List Nat) : Nat → List (Int × Int) → Nat → Prop
  | nil {b : Nat} : Fw s ks b [] b
  | cons {b j m r : Nat} {l : List (Int × Int)} : s.inside[j]? = some (some m) → (s.parcels.getD m (0, 0)).1 ≤ s.sizes.getD b 0 → (∃ k i : Nat, k < i ∧ ks[k]? = some j ∧ ks[i]? = some b) → Fw s ks j l r → Fw s ks b (((m : Int), (b : Int)) :: l) r
theorem Mv.fw {s : WS} {ks : List Nat} {e b : Nat} {mv : List (Int × Int)} (h : Mv s ks e mv b) : ∀ {l : List (Int × Int)} {r : Nat}, Fw s ks b l r → Fw s ks e (mv ++ l) r := by
  induction h with
  | nil => intro l r f; exact f
  | snoc hM h1 h2 h3 ih =>
    intro l r f
    rw [List.append_assoc]
    exact ih (.cons h1 h2 h3 f)
/-- a wall on which the moves behind b are yet to be done -/
structure MI (s0 : WS) (ks : List Nat) (s : WS) (b : Nat) (xs : List (Option Nat)) : Prop where
  side : Side s0.sizes xs s
  xl : xs.length = s0.sizes.length
  il : s.inside.length = s0.sizes.length
  ps : s.parcels = s0.parcels
  emp : s.inside[b]? = some none
  old : ∀ i k c : Nat, ks[i]? = some b → k < i → ks[k]? = some c → s.inside[c]? = s0.inside[c]?
  kept : ∀ m, some m ∈ s0.inside → some m ∈ s.inside
theorem MI.step {s0 : WS} {ks : List Nat} (nd : ks.Nodup) {s : WS} {b j m : Nat} {xs : List (Option Nat)} (g : MI s0 ks s b xs) (hj : s0.inside[j]? = some (some m)) (hr : ∃ k i : Nat, k < i ∧ ks[k]? = some j ∧ ks[i]? = some b) :
    s.inside[j]? = some (some m) ∧ ∃ xs', MI s0 ks (s.ins ((s.inside.set j none).set b (some m))) j xs' := by
  obtain ⟨k, i, ki, hk, hi⟩ := hr
  have hsj : s.inside[j]? = some (some m) := by rw [g.old i k j hi ki hk]; exact hj
  have hjb : j ≠ b := fun e => by rw [e, g.emp] at hsj; cases hsj
  obtain ⟨v, hv, _⟩ := g.side.at_ (by rw [g.xl, g.il]) hsj
  have bl := getLt g.emp
  have hm := g.side.move hsj hv g.emp (by rw [g.xl, ← g.il]; exact bl)
  refine ⟨hsj, _, hm, by rw [List.length_set, List.length_set]; exact g.xl, by show ((s.inside.set j none).set b (some m)).length = _; rw [List.length_set, List.length_set]; exact g.il, g.ps, ?_, fun i' k' c h1 h2 h3 => ?_, fun m' hm' => ?_⟩
  · show ((s.inside.set j none).set b (some m))[j]? = some none
    rw [List.getElem?_set_ne (Ne.symm hjb)]
    exact List.getElem?_set_self (getLt hsj)
  · show ((s.inside.set j none).set b (some m))[c]? = _
    have ei : i' = k := (List.getElem?_inj (getLt h1) nd).mp (h1.trans hk.symm)
    subst ei
    have cj : c ≠ j := fun e => by
      subst e
      have := (List.getElem?_inj (getLt h1) nd).mp (h1.trans h3.symm)
      omega
    have cb : c ≠ b := fun e => by
      subst e
      have := (List.getElem?_inj (getLt hi) nd).mp (hi.trans h3.symm)
      omega
    rw [List.getElem?_set_ne (Ne.symm cb), List.getElem?_set_ne (Ne.symm cj)]
    exact g.old i k' c hi (by omega) h3
  · have h1 := g.kept m' hm'
    show some m' ∈ (s.inside.set j none).set b (some m)
    obtain ⟨c, hc, ec⟩ := List.getElem_of_mem h1
    have hq : s.inside[c]? = some (some m') := by rw [List.getElem?_eq_getElem hc, ec]
    by_cases e : c = j
    · subst e
      rw [hsj] at hq
      cases hq
      exact List.mem_of_getElem? (i := b) (List.getElem?_set_self (by rw [List.length_set]; exact bl))
    · have cb : c ≠ b := fun z => by rw [z, g.emp] at hq; cases hq
      exact List.mem_of_getElem? (i := c) (by rw [List.getElem?_set_ne (Ne.symm cb), List.getElem?_set_ne (Ne.symm e)]; exact hq)
theorem MI.start {ks : List Nat} {s : WS} {e : Nat} {xs : List (Option Nat)} (g : Side s.sizes xs s) (xl : xs.length = s.sizes.length) (il : s.inside.length = s.sizes.length) (he : e ∈ freeL s.inside) : MI s ks s e xs := by
  have h := mem_free.mp he
  refine ⟨g, xl, il, rfl, ?_, fun _ _ _ _ _ _ => rfl, fun _ h => h⟩
  have q := h.2
  rw [List.getD_eq_getElem?_getD, List.getElem?_eq_getElem h.1] at q
  rw [List.getElem?_eq_getElem h.1]
  exact congrArg some q
/-! ### the parcels' sizes -/
def vals (xs : List (Option Nat)) : List Int := (xs.filter Option.isSome).map fun x => ((x.getD 0 : Nat) : Int)
theorem vals_optV : ∀ xs : List (Option Nat), (xs.filter Option.isSome).map optV = (vals xs).map V.int
  | [] => rfl
  | none :: r => vals_optV r
  | some m :: r => by
    have ih := vals_optV r
    show V.int (m : Int) :: (r.filter Option.isSome).map optV = V.int (m : Int) :: (vals r).map V.int
    rw [ih]
theorem vals_len (xs : List (Option Nat)) : (vals xs).length = (xs.filter Option.isSome).length := by unfold vals; rw [List.length_map]
theorem cnt_vals (t : Int) : ∀ xs : List (Option Nat), cntGe (vals xs) t = cntO (xs.map fun x => x.map fun m : Nat => (m : Int)) t
  | [] => rfl
  | none :: r => by
    have ih := cnt_vals t r
    show cntGe (vals r) t = cntO (none :: _) t
    rw [cntO_cons, ih]
    simp [geO]
  | some m :: r => by
    have ih := cnt_vals t r
    show cntGe ((m : Int) :: vals r) t = cntO (some (m : Int) :: _) t
    rw [cntO_cons, cntGe_cons, ih]
    simp [geO]
theorem TooMany.cnt {s : WS} {xs : List (Option Nat)} {size least : Int} {R : List Nat} (h : TooMany s size least R) (g : Side s.sizes xs s) (xl : xs.length = s.sizes.length) (il : s.inside.length = s.sizes.length) : cntGe s.sizes least < cntGe (vals xs ++ [size]) least := by
  rw [cntGe_snoc, if_pos h.le, cnt_vals]
  have q : cntGe s.sizes least ≤ cntO (xs.map fun x => x.map fun m : Nat => (m : Int)) least := by
    refine le_cntO (by rw [List.length_map]; exact xl) fun b hb hl => ?_
    obtain ⟨m, h1, h2⟩ := h.full b ((h.iff b).mpr ⟨hb, hl⟩)
    obtain ⟨v, v1, v2⟩ := g.at_ (by rw [xl, il]) h1
    rw [v2] at h2
    exact ⟨(v : Int), by rw [List.getElem?_map, v1]; rfl, h2⟩
  omega
theorem TooMany.not {s : WS} {size least : Int} {R : List Nat} (h : TooMany s size least R) (il : s.inside.length = s.sizes.length) : ¬ ∃ b ∈ freeL s.inside, size ≤ s.sizes.getD b 0 := fun ⟨b, hb, hs⟩ => by
  have hf := mem_free.mp hb
  have := h.le
  by_cases hbl : b < s.sizes.length
  · obtain ⟨m, h1, _⟩ := h.full b ((h.iff b).mpr ⟨hbl, by omega⟩)
    have q := hf.2
    rw [List.getD_eq_getElem?_getD, h1] at q
    cases q
  · omega
theorem Side.count {sizes : List Int} {xs : List (Option Nat)} {s : WS} (g : Side sizes xs s) (hl : xs.length = s.inside.length) : (s.inside.filter Option.isSome).length = (xs.filter Option.isSome).length := by
  have e : s.inside.map Option.isSome = xs.map Option.isSome := by
    apply List.ext_getElem?
    intro b
    rw [List.getElem?_map, List.getElem?_map]
    cases hx : xs[b]? with
    | none =>
      have : s.inside[b]? = none := by
        rw [List.getElem?_eq_none_iff] at hx ⊢
        omega
      rw [this]
    | some y =>
      cases y with
      | none => rw [g.non b hx]
      | some v =>
        obtain ⟨m, h, _⟩ := g.som b v hx
        rw [h]; first | done | rfl
  have key : ∀ l : List (Option Nat), (l.filter Option.isSome).length = ((l.map Option.isSome).filter id).length := fun l => by
    rw [List.filter_map, List.length_map]; rfl
  rw [key, key, e]
end Pw
namespace Pw
theorem Mv.of_nil {s : WS} {ks : List Nat} {e b : Nat} {mv : List (Int × Int)} (h : Mv s ks e mv b) (hm : mv = []) : b = e := by
  cases h with
  | nil => rfl
  | snoc h1 h2 h3 h4 => simp at hm
end Pw
namespace Pw
/-! ### the law's own lists: a state -/
theorem inInts {l : List Int} {n : Int} : inV (.int n) (l.map V.int) = true ↔ n ∈ l := by
  unfold inV
  rw [List.any_eq_true]
  constructor
  · rintro ⟨y, hy, e⟩
    obtain ⟨x, hx, rfl⟩ := List.mem_map.mp hy
    have : x = n := beq_iff_eq.mp (show (x == n) = true from e)
    rw [← this]; exact hx
  · intro h
    exact ⟨V.int n, List.mem_map.mpr ⟨n, h, rfl⟩, show (n == n) = true from beq_self_eq_true _⟩
theorem inIntsNon {l : List Int} : inV .non (l.map V.int) = false := by
  unfold inV
  rw [List.any_eq_false]
  intro y hy
  obtain ⟨x, _, rfl⟩ := List.mem_map.mp hy
  exact Bool.false_ne_true
theorem mem_back {ps : List (Int × Int)} {day : Int} {l : List (Option Nat)} {m : Nat} (h : some m ∈ l) : ((m : Int) ∈ backOf ps day l) ↔ dueB ps day (some m) = true := by
  unfold backOf
  rw [List.mem_map]
  constructor
  · rintro ⟨x, hx, e⟩
    obtain ⟨h1, h2⟩ := List.mem_filter.mp hx
    cases x with
    | none => cases h2
    | some k =>
      have e : ((k : Nat) : Int) = (m : Int) := e
      have e : k = m := by omega
      rw [← e]; exact h2
  · intro h2
    exact ⟨some m, List.mem_filter.mpr ⟨h, h2⟩, rfl⟩
/-- a state of the law's own at t -/
structure StAt (H : Hp) (t h p : Addr) (is : List (Option Nat)) (ps : List (Int × Int)) (td : Int) : Prop where
  st : H t = some (.lst [.ref h, .ref p, .int td])
  hd : H h = some (.lst (is.map optV))
  pa : PairL H p ps
theorem StAt.mono {H H' : Hp} {t h p : Addr} {is : List (Option Nat)} {ps : List (Int × Int)} {td : Int} (a : StAt H t h p is ps td) (s : Same H H') : StAt H' t h p is ps td := ⟨s _ _ a.st, s _ _ a.hd, a.pa.mono s⟩
/-- a deed's tuple -/
inductive Deed where
  | night
  | fetch (n : Int)
  | come (size nights : Int)
  | move (m c : Nat)
def Deed.vs : Deed → List V
  | .night => [.str "night"]
  | .fetch n => [.str "fetch", .int n]
  | .come size nights => [.str "come", .int size, .int nights]
  | .move m c => [.str "move", .int (m : Int), .int (c : Int)]
/-- what is answered: refused, a whole number, a list, None -/
inductive Ans where
  | no (u : Str)
  | num (n : Int)
  | ids (l : List Int)
  | non
/-- what a deed does -/
inductive Does (sizes : List Int) : List (Option Nat) → List (Int × Int) → Int → Deed → Ans → List (Option Nat) → List (Int × Int) → Int → Prop
  | night {is ps td ids} : ids.Perm (backOf ps (td + 1) is) → ids.Pairwise (· ≤ ·) → Does sizes is ps td .night (.ids ids) (is.map (nightF ps (td + 1))) ps (td + 1)
  | fetchNo {is ps td n} : ¬ hasP is n → Does sizes is ps td (.fetch n) (.no "NoParcel") is ps td
  | fetch {is ps td m b} : Fst is m b → Does sizes is ps td (.fetch (m : Int)) (.num (b : Int)) (is.set b none) ps td
  | comeNo {is ps td size nights u} : Rf sizes is size nights u → Does sizes is ps td (.come size nights) (.no u) is ps td
  | come {is ps td size nights b} : In sizes is size nights b → Does sizes is ps td (.come size nights) (.num (ps.length : Int)) (is.set b (some ps.length)) (ps ++ [(size, td + nights)]) td
  | moveNo {is ps td m c} : some m ∈ is → ¬ (c ∈ freeL is ∧ (ps.getD m (0, 0)).1 ≤ sizes.getD c 0) → Does sizes is ps td (.move m c) (.no "NoBox") is ps td
  | move {is ps td m c b} : Fst is m b → c ∈ freeL is → (ps.getD m (0, 0)).1 ≤ sizes.getD c 0 → Does sizes is ps td (.move m c) .non ((is.set b none).set c (some m)) ps td
theorem sorted_uniq : ∀ {l l' : List Int}, l.Perm l' → l.Pairwise (· ≤ ·) → l'.Pairwise (· ≤ ·) → l = l'
  | [], l', h, _, _ => h.nil_eq
  | x :: r, l', h, h1, h2 => by
    cases l' with
    | nil => exact absurd h.symm.nil_eq (by intro q; cases q)
    | cons y q =>
      obtain ⟨a1, a2⟩ := List.pairwise_cons.mp h1
      obtain ⟨b1, b2⟩ := List.pairwise_cons.mp h2
      have xy : x = y := by
        have m1 : x ∈ y :: q := h.mem_iff.mp List.mem_cons_self
        have m2 : y ∈ x :: r := h.mem_iff.mpr List.mem_cons_self
        rcases List.mem_cons.mp m1 with e | e
        · exact e
        · rcases List.mem_cons.mp m2 with e2 | e2
          · exact e2.symm
          · have := b1 x e
            have := a1 y e2
            omega
      subst xy
      rw [sorted_uniq (List.Perm.cons_inv h) a2 b2]
theorem Does.uniq {sizes : List Int} {is : List (Option Nat)} {ps : List (Int × Int)} {td : Int} {d : Deed} {a a' : Ans} {is1 is2 : List (Option Nat)} {ps1 ps2 : List (Int × Int)} {t1 t2 : Int} (h : Does sizes is ps td d a is1 ps1 t1) (h' : Does sizes is ps td d a' is2 ps2 t2) :
    a = a' ∧ is1 = is2 ∧ ps1 = ps2 ∧ t1 = t2 := by
  cases h with
  | night p1 q1 =>
    cases h' with
    | night p2 q2 => exact ⟨by rw [sorted_uniq (p1.trans p2.symm) q1 q2], rfl, rfl, rfl⟩
  | fetchNo n1 =>
    generalize hd : Deed.fetch _ = d at h'
    cases h' with
    | fetchNo n2 => exact ⟨rfl, rfl, rfl, rfl⟩
    | fetch f =>
      cases hd
      exact absurd ⟨_, rfl, f.mem⟩ n1
    | _ => cases hd
  | fetch f1 =>
    generalize hd : Deed.fetch _ = d at h'
    cases h' with
    | fetchNo n2 =>
      cases hd
      exact absurd ⟨_, rfl, f1.mem⟩ n2
    | fetch f2 =>
      have e := Deed.fetch.inj hd
      rename_i m b m' b'
      have e : m = m' := by omega
      subst e
      have e := f1.uniq f2
      subst e
      exact ⟨rfl, rfl, rfl, rfl⟩
    | _ => cases hd
  | comeNo r1 =>
    cases h' with
    | comeNo r2 => exact ⟨by rw [r1.uniq r2], rfl, rfl, rfl⟩
    | come i2 => exact (i2.not r1).elim
  | come i1 =>
    cases h' with
    | comeNo r2 => exact (i1.not r2).elim
    | come i2 =>
      have e := i1.2.2.uniq i2.2.2
      subst e
      exact ⟨rfl, rfl, rfl, rfl⟩
  | moveNo m1 n1 =>
    cases h' with
    | moveNo m2 n2 => exact ⟨rfl, rfl, rfl, rfl⟩
    | move f c1 c2 => exact absurd ⟨c1, c2⟩ n1
  | move f1 c1 c2 =>
    cases h' with
    | moveNo m2 n2 => exact absurd ⟨c1, c2⟩ n2
    | move f2 d1 d2 =>
      have e := f1.uniq f2
      subst e
      exact ⟨rfl, rfl, rfl, rfl⟩
end Pw
namespace Pw
/-- an answer as a value -/
def AnsAt (H H' : Hp) : Ans → V → Prop
  | .no u, v => v = .str u
  | .num n, v => v = .int n
  | .ids l, v => ∃ q, v = .ref q ∧ H q = none ∧ H' q = some (.lst (l.map V.int))
  | .non, v => v = .non
end Pw
namespace Pw
theorem mem_vals {is : List (Option Nat)} {x : Int} (h : x ∈ vals is) : ∃ m : Nat, x = (m : Int) ∧ some m ∈ is := by
  unfold vals at h
  obtain ⟨y, hy, rfl⟩ := List.mem_map.mp h
  obtain ⟨h1, h2⟩ := List.mem_filter.mp hy
  cases y with
  | none => cases h2
  | some m => exact ⟨m, rfl, h1⟩
def marks03 (u : Str) : List V := [.bl (decide (V.str u = V.str "NoSize")), .bl (decide (V.str u = V.str "NoNights")), .bl (decide (V.str u = V.str "NoBox")), .bl (decide (V.str u = V.str "NoParcel"))]
theorem marks31 : marks03 "NoSize" = [.bl true, .bl false, .bl false, .bl false] := by decide +kernel
theorem marks32 : marks03 "NoNights" = [.bl false, .bl true, .bl false, .bl false] := by decide +kernel
theorem marks33 : marks03 "NoBox" = [.bl false, .bl false, .bl true, .bl false] := by decide +kernel
theorem marks34 : marks03 "NoParcel" = [.bl false, .bl false, .bl false, .bl true] := by decide +kernel
/-- what the wall's answer is, as the law tells it -/
def AnsF (s : WS) (H H' : Hp) : Ans → V → Prop
  | .no u, v => ∃ q e, v = .ref q ∧ H' q = some (.tup [.str "refused", .ref e]) ∧ H' e = some (.lst (marks03 u))
  | .num n, v => v = .int n
  | .ids l, v => ∃ q, v = .ref q ∧ H q = none ∧ H' q = some (.lst (l.map V.int)) ∧ q ≠ s.w ∧ q ≠ s.l1 ∧ q ≠ s.l2 ∧ q ≠ s.l3
  | .non, v => v = .non
end Pw
namespace Pw
theorem StAt.kp {H H' : Hp} {t h p : Addr} {is : List (Option Nat)} {ps : List (Int × Int)} {td : Int} {as : List Addr} (a : StAt H t h p is ps td) (k : Kp as H H') (n1 : t ∉ as) (n2 : h ∉ as) (n3 : p ∉ as) (nt : ∀ z u v, H z = some (.tup [u, v]) → z ∉ as) : StAt H' t h p is ps td :=
  ⟨k _ _ a.st n1, k _ _ a.hd n2, a.pa.upd_tup k n3 nt⟩
theorem StAt.lstUpd {H : Hp} {t h p q : Addr} {is : List (Option Nat)} {ps : List (Int × Int)} {td : Int} {xs ys : List V} (a : StAt H t h p is ps td) (hq : H q = some (.lst xs)) (n1 : q ≠ t) (n2 : q ≠ h) (n3 : q ≠ p) : StAt (upd H q (.lst ys)) t h p is ps td :=
  a.kp (as := [q]) (fun x o e n => by rw [upd_ne (fun z => n (by simp [z]))]; exact e) (consNot (Ne.symm n1) nilNot) (consNot (Ne.symm n2) nilNot) (consNot (Ne.symm n3) nilNot) fun z u v e => consNot (ne_of e hq (by intro q; cases q)) nilNot
/-- the due answer, and the told one, as values -/
def AnsD (H : Hp) (as : List Addr) : Ans → V → Prop
  | .no u, v => v = .str u
  | .num n, v => v = .int n
  | .ids l, v => ∃ q, v = .ref q ∧ H q = some (.lst (l.map V.int)) ∧ q ∉ as
  | .non, v => v = .non
def AnsE (Hv H : Hp) (as : List Addr) : Ans → V → Prop
  | .no u, v => ∃ q e, v = .ref q ∧ H q = some (.tup [.str "refused", .ref e]) ∧ H e = some (.lst (marks03 u))
  | .num n, v => v = .int n
  | .ids l, v => ∃ q, v = .ref q ∧ H q = some (.lst (l.map V.int)) ∧ q ∉ as ∧ Hv q = none
  | .non, v => v = .non
theorem refNon {a : Addr} : ¬ V.ref a = V.non := fun h => by cases h
end Pw
namespace Pw
def sp_law_deed_by (K : PySem.W.Frag) : Sp := fun vs H Q _ => ∃ (a t h p : Addr) (ns : List Int) (k : Int) (is : List (Option Nat)) (ps : List (Int × Int)) (td : Int), vs = [.ref a, .int k, .ref t] ∧ SqL K H a (ns.map V.int) ∧ ns.length ≤ 63 ∧ StAt H t h p is ps td ∧ ps.length ≤ 1000 ∧
  ∀ (deed : Deed) (q : Addr) (H' : Hp), (∀ m c, deed ≠ .move m c) → Same H H' → H' q = some (.tup deed.vs) → Q (.ref q) H'
theorem len_law_deed_by {K : PySem.W.Frag} : ∀ vs H Q E, sp_law_deed_by K vs H Q E → vs.length = 3 := by
  rintro vs H Q E ⟨_, _, _, _, _, _, _, _, _, rfl, _⟩
  rfl
def t_law_deed_by (K : PySem.W.Frag) (E : XK) : TS :=
  tSeq (tAsg (tCall (sp_law_drawn K) [] E0 (tCons (tVar 0) (tCons (tVar 1) (tCons (tC (.int 8)) tNil)))) (gName 3))
    (tSeq (tIfS (tTest (tOp rEq (tVar 3) (tC (.int 0)))) (tRet (tTup (tCons (tC (.str "night")) tNil))) (tNext))
    (tSeq (tIfS (tTest (tOp rLt (tVar 3) (tC (.int 3)))) (tSeq (tAsg (tCall (sp_law_drawn K) [] E0 (tCons (tVar 0) (tCons (tOp rAddI (tVar 1) (tC (.int 1))) (tCons (tOp rAddI (tCB (rLenSeq K) (tCons (tOp (rIxL K) (tVar 2) (tC (.int 1))) tNil)) (tC (.int 1))) tNil)))) (gName 4))
    (tCutP (tIfS (tTest (tOp rEq (tCall (sp_law_drawn K) [] E0 (tCons (tVar 0) (tCons (tOp rAddI (tVar 1) (tC (.int 2))) (tCons (tC (.int 9)) tNil)))) (tC (.int 1)))) (tAsg (tOp (rIxL K) (tLst (tCons (tUn rNeg (tC (.int 1))) (tCons (tOp rAddI (tCB (rLenSeq K) (tCons (tOp (rIxL K) (tVar 2) (tC (.int 1))) tNil)) (tOp rPow (tC (.int 10)) (tC (.int 9)))) (tCons (tUn rNeg (tOp rPow (tC (.int 10)) (tC (.int 9)))) tNil)))) (tCall (sp_law_drawn K) [] E0 (tCons (tVar 0) (tCons (tOp rAddI (tVar 1) (tC (.int 3))) (tCons (tC (.int 3)) tNil))))) (gName 4)) (tNext))
    (tRet (tTup (tCons (tC (.str "fetch")) (tCons (tVar 4) tNil)))))) (tNext))
    (tSeq (tAsg (tOp rAddI (tC (.int 1)) (tCall (sp_law_drawn K) [] E0 (tCons (tVar 0) (tCons (tOp rAddI (tVar 1) (tC (.int 1))) (tCons (tOp (rIxL K) (tLst (tCons (tC (.int 3)) (tCons (tC (.int 5)) (tCons (tC (.int 9)) tNil)))) (tCall (sp_law_drawn K) [] E0 (tCons (tVar 0) (tCons (tOp rAddI (tVar 1) (tC (.int 4))) (tCons (tC (.int 3)) tNil))))) tNil))))) (gName 5))
    (tSeq (tAsg (tOp rAddI (tC (.int 1)) (tCall (sp_law_drawn K) [] E0 (tCons (tVar 0) (tCons (tOp rAddI (tVar 1) (tC (.int 2))) (tCons (tC (.int 9)) tNil))))) (gName 6))
    (tCutP (tIfS (tTest (tOp rEq (tCall (sp_law_drawn K) [] E0 (tCons (tVar 0) (tCons (tOp rAddI (tVar 1) (tC (.int 3))) (tCons (tC (.int 12)) tNil)))) (tC (.int 1)))) (tAsg (tOp (rIxL K) (tLst (tCons (tC (.int 0)) (tCons (tC (.int 10)) (tCons (tUn rNeg (tC (.int 1))) (tCons (tOp rPow (tC (.int 10)) (tC (.int 9))) tNil))))) (tCall (sp_law_drawn K) [] E0 (tCons (tVar 0) (tCons (tOp rAddI (tVar 1) (tC (.int 5))) (tCons (tC (.int 4)) tNil))))) (gName 5)) (tNext))
    (tCutP (tIfS (tTest (tOp rEq (tCall (sp_law_drawn K) [] E0 (tCons (tVar 0) (tCons (tOp rAddI (tVar 1) (tC (.int 6))) (tCons (tC (.int 12)) tNil)))) (tC (.int 1)))) (tAsg (tOp (rIxL K) (tLst (tCons (tC (.int 0)) (tCons (tC (.int 10)) (tCons (tUn rNeg (tC (.int 1))) (tCons (tOp rPow (tC (.int 10)) (tC (.int 9))) tNil))))) (tCall (sp_law_drawn K) [] E0 (tCons (tVar 0) (tCons (tOp rAddI (tVar 1) (tC (.int 7))) (tCons (tC (.int 4)) tNil))))) (gName 6)) (tNext))
    (tRet (tTup (tCons (tC (.str "come")) (tCons (tVar 5) (tCons (tVar 6) tNil)))))))))))
theorem pure_law_deed_by {K : PySem.W.Frag} (vs : List V) (H : Hp) (Q : VK) (E : XK) (h : sp_law_deed_by K vs H Q E) : t_law_deed_by K E { nx := fun _ H' => Q .non H', rt := Q } (start ["script", "k", "state", "way", "parcel", "size", "nights"] vs) H := by
  obtain ⟨a, t, h, p, ns, kk, is, ps, td, rfl, hS, hl, hSt, lp, k⟩ := h
  have hT := hSt.st
  obtain ⟨ys, hy, hyl⟩ := hSt.pa.len
  unfold t_law_deed_by
  walk_at "go"
  intro d0 d1
  walk_at "go"
  refine ifD (fun c => ?_) (fun c => ?_)
  · walk_at "go"
    intro q hq
    exact k .night q _ (fun m c z => by cases z) (sameNew (Same.refl _) hq) upd_same
  walk_at "go"
  refine ifD (fun c1 => ?_) (fun c1 => ?_)
  · walk_at "go"
    intro d2 d3
    walk_at "go"
    refine cut (fun σ H' => Stop (∃ (n v3 : Int), σ = [some (.ref a), some (.int kk), some (.ref t), some (.int v3), some (.int n), none, none] ∧ Same H H')) ?_ ?_
    · walk_at "go"
      intro d4 d5
      walk_at "go"
      refine ifD (fun c2 => ?_) (fun c2 => ?_)
      · walk_at "go"
        intro q hq
        have sq : Same H (upd H q (.lst [.int (-1), .int ((ys.length : Nat) + 10 ^ (9 : Int).toNat), .int (-10 ^ (9 : Int).toNat)])) := sameNew (Same.refl _) hq
        have hS2 := sq.seq hS
        walk_at "go"
        intro d6 d7
        walk_at "go"
        refine ⟨atInt (xs := [-1, (ys.length : Nat) + 10 ^ (9 : Int).toNat, -10 ^ (9 : Int).toNat]) d6 d7, ?_⟩
        walk_at "go"
        exact ⟨_, _, rfl, sq⟩
      · exact ⟨_, _, rfl, Same.refl _⟩
    · rintro σ H1 ⟨n, v3, rfl, s1⟩
      walk_at "go"
      intro q hq
      exact k (.fetch n) q _ (fun m c z => by cases z) (s1.trans (sameNew (Same.refl _) hq)) upd_same
  walk_at "go"
  intro J hJ
  have sJ : Same H (upd H J (.lst [V.int 3, V.int 5, V.int 9])) := sameNew (Same.refl _) hJ
  have hS7 := sJ.seq hS
  walk_at "go"
  intro e0 e1
  walk_at "go"
  refine ⟨atInt (xs := [3, 5, 9]) e0 e1, ?_⟩
  have ht : 1 ≤ ([3, 5, 9] : List Int).getD (drawn ns (kk + 4) 3).toNat 0 ∧ ([3, 5, 9] : List Int).getD (drawn ns (kk + 4) 3).toNat 0 ≤ (9 : Int) := by
    have q : (drawn ns (kk + 4) 3).toNat = 0 ∨ (drawn ns (kk + 4) 3).toNat = 1 ∨ (drawn ns (kk + 4) 3).toNat = 2 := by omega
    rcases q with q | q | q <;> rw [q] <;> decide
  generalize ([3, 5, 9] : List Int).getD (drawn ns (kk + 4) 3).toNat 0 = top at ht ⊢
  generalize upd H J (.lst [V.int 3, V.int 5, V.int 9]) = H7 at sJ hS7
  walk_at "go"
  intro d2 d3
  generalize drawn ns (kk + 1) top = dr at d2 d3 ⊢
  walk_at "go"
  intro d4 d5
  generalize drawn ns (kk + 2) 9 = dn at d4 d5 ⊢
  walk_at "go"
  refine cut (fun σ H' => Stop (∃ (size v3 : Int), σ = [some (.ref a), some (.int kk), some (.ref t), some (.int v3), none, some (.int size), some (.int (1 + dn))] ∧ Same H H')) ?_ ?_
  · walk_at "go"
    intro c2 c3
    walk_at "go"
    refine ifD (fun c => ?_) (fun c => ?_)
    · walk_at "go"
      intro q hq
      have sq : Same H7 (upd H7 q (.lst [.int 0, .int 10, .int (-1), .int (10 ^ (9 : Int).toNat)])) := sameNew (Same.refl _) hq
      have hS8 := sq.seq hS7
      walk_at "go"
      intro c4 c5
      walk_at "go"
      refine ⟨atInt (xs := [0, 10, -1, 10 ^ (9 : Int).toNat]) c4 c5, ?_⟩
      walk_at "go"
      exact ⟨_, _, rfl, sJ.trans sq⟩
    · exact ⟨_, _, rfl, sJ⟩
  rintro σ H8 ⟨size, v3, rfl, s8⟩
  have hS8 := s8.seq hS
  refine cut (fun σ H' => Stop (∃ (nights : Int), σ = [some (.ref a), some (.int kk), some (.ref t), some (.int v3), none, some (.int size), some (.int nights)] ∧ Same H H')) ?_ ?_
  · walk_at "go"
    intro c2 c3
    walk_at "go"
    refine ifD (fun c => ?_) (fun c => ?_)
    · walk_at "go"
      intro q hq
      have sq : Same H8 (upd H8 q (.lst [.int 0, .int 10, .int (-1), .int (10 ^ (9 : Int).toNat)])) := sameNew (Same.refl _) hq
      have hS9 := sq.seq hS8
      walk_at "go"
      intro c4 c5
      walk_at "go"
      refine ⟨atInt (xs := [0, 10, -1, 10 ^ (9 : Int).toNat]) c4 c5, ?_⟩
      walk_at "go"
      exact ⟨_, rfl, s8.trans sq⟩
    · exact ⟨_, rfl, s8⟩
  rintro σ H9 ⟨nights, rfl, s9⟩
  walk_at "go"
  intro q hq
  exact k (.come size nights) q _ (fun m c z => by cases z) (s9.trans (sameNew (Same.refl _) hq)) upd_same
end Pw
namespace Pw
def sp_is_size (K : PySem.W.Frag) : Sp := fun vs H Q _ => ∃ n : Int, vs = [.int n] ∧ Q (.bl (decide (1 ≤ n ∧ n ≤ 9))) H
theorem len_is_size {K : PySem.W.Frag} : ∀ vs H Q E, sp_is_size K vs H Q E → vs.length = 1 := by
  rintro vs H Q E ⟨_, rfl, _⟩
  rfl
def t_is_size (K : PySem.W.Frag) (E : XK) : TS :=
  tRet (tAndV (tOp rLe (tC (.int 1)) (tVar 0)) (tOp rLe (tVar 0) (tC (.int 9))))
theorem pure_is_size {K : PySem.W.Frag} (vs : List V) (H : Hp) (Q : VK) (E : XK) (h : sp_is_size K vs H Q E) : t_is_size K E { nx := fun _ H' => Q .non H', rt := Q } (start ["number"] vs) H := by
  obtain ⟨n, rfl, k⟩ := h
  unfold t_is_size
  walk_at "go"
  refine ifD (fun h1 => ?_) (fun h1 => ?_)
  · walk_at "go"
    simpa [h1] using k
  · simpa [h1] using k
end Pw
namespace Pw
def sp_Wall_init (K : PySem.W.Frag) : Sp := fun vs H Q E => ∃ (w dx a : Addr) (ns : List Int), vs = [.ref w, .ref a] ∧ H w = some (.ins (He.ga K "Wall") dx []) ∧ SqL K H a (ns.map V.int) ∧ ns.length ≤ 1000 ∧
  (OkW ns → ∀ H' l1 l2 l3, WallAt K H' ⟨w, dx, l1, l2, l3, ns, List.replicate ns.length none, [], 0⟩ → H l1 = none → H l2 = none → H l3 = none → (∀ b o, H b = some o → b ≠ w → H' b = some o) → Q .non H') ∧
  (¬ OkW ns → E (.ref (He.ga K "NoWall")) none H)
theorem len_Wall_init {K : PySem.W.Frag} : ∀ vs H Q E, sp_Wall_init K vs H Q E → vs.length = 2 := by
  rintro vs H Q E ⟨_, _, _, _, rfl, _⟩
  rfl
def t_Wall_init (K : PySem.W.Frag) (E : XK) : TS :=
  tSeq (tIfS (tOr (tTest (tOp rLt (tCB (rLenSeq K) (tCons (tVar 1) tNil)) (tC (.int 1)))) (tTest (tOp rGt (tCB (rLenSeq K) (tCons (tVar 1) tNil)) (tC (.int 8))))) (tRaise E (He.ga K "NoWall")) (tNext))
    (tSeq (tForP (iList K (tVar 1)) (gName 2) (tIfS (tNot (tB (tCall (sp_is_size K) [] E0 (tCons (tVar 2) tNil)))) (tRaise E (He.ga K "NoWall")) (tNext)))
    (tSeq (sFld K (tVar 0) (tCB (rListOf K) (tCons (tVar 1) tNil)) "boxes")
    (tSeq (sFld K (tVar 0) (tLc (iList K (tVar 1)) (gName 2) tYes (tC .non) [2]) "inside")
    (tSeq (sFld K (tVar 0) (tLst tNil) "parcels")
    (sFld K (tVar 0) (tC (.int 0)) "today")))))
theorem pure_Wall_init {K : PySem.W.Frag} (T : TW K) (vs : List V) (H : Hp) (Q : VK) (E : XK) (h : sp_Wall_init K vs H Q E) : t_Wall_init K E { nx := fun _ H' => Q .non H', rt := Q } (start ["self", "sizes", "size"] vs) H := by
  obtain ⟨w, dx, a, ns, rfl, hw, hS, hl, k, kE⟩ := h
  obtain ⟨tcl, tnb, tni, tnp, tnt⟩ := id T
  unfold t_Wall_init
  walk_at "go"
  simp only [List.length_map]
  refine ifD (fun c => ?_) (fun c => ?_)
  · exact kE fun o => by have := o.1; omega
  walk_at "go"
  simp only [List.length_map]
  refine ifD (fun c2 => ?_) (fun c2 => ?_)
  · exact kE fun o => by have := o.2.1; omega
  walk_at "go"
  refine forList (K := K) (a := a) (xs := ns.map V.int) (fun i σ H' => ∃ v : Option V, σ = [some (.ref w), some (.ref a), v] ∧ H' = H ∧ ∀ x ∈ ns.take i, 1 ≤ x ∧ x ≤ 9) ⟨none, rfl, rfl, by simp⟩ ?_ ?_ ?_
  · rintro i σ H' _ ⟨v, _, rfl, _⟩
    exact hS
  · rintro i x σ H' hi ⟨v, rfl, rfl, ha⟩
    obtain ⟨n, hn, rfl⟩ := mapGet hi
    walk_at "go"
    refine ifN (fun c => ?_) (fun c => ?_)
    · refine kE fun o => c (o.2.2 n (List.mem_of_getElem? hn))
    · walk_at "go"
      intro x hx
      rw [takeMore hn] at hx
      rcases List.mem_append.mp hx with q | q
      · exact ha x q
      · rw [List.mem_singleton.mp q]; exact c
  · rintro σ H' ⟨v, rfl, rfl, ha⟩
    rw [List.length_map, List.take_length] at ha
    have ok : OkW ns := ⟨by omega, by omega, ha⟩
    walk_at "go"
    intro l1 h1
    have n1 : w ≠ l1 := ne_of_none hw h1
    have hS2 : SqL K (upd (upd H' l1 (.lst (ns.map V.int))) w (.ins (He.ga K "Wall") dx (putF "boxes" (.ref l1) []))) a (ns.map V.int) := by
      rcases hS with (q | ⟨o, q⟩) | q
      · refine .inl (.inl ?_)
        rw [upd_ne (ne_of q hw (by intro z; cases z)), upd_ne (ne_of_none q h1)]; exact q
      · refine .inl (.inr ⟨o, ?_⟩)
        rw [upd_ne (ne_of q hw (by intro z; cases z)), upd_ne (ne_of_none q h1)]; exact q
      · exact .inr q
    walk_at "go"
    intro l2 h2
    refine lcMap (fun _ => true) (fun _ => V.non) h2 hS2 (by omega) (fun _ => rfl) (fun i n H3 _ s3 TT k' => ?_) (fun i n H3 _ _ s3 Qv k' => ?_) (fun H3 s3 hD => ?_)
    · exact k' _ (Same.refl _)
    · exact k' _ (Same.refl _)
    rw [filterAll] at hD
    have f1 : H' l2 = none := updFree (updFree h2)
    have n2 : w ≠ l2 := ne_of_none hw f1
    have n12 : l2 ≠ l1 := fun e => by
      rw [e, upd_ne n1.symm, upd_same] at h2
      cases h2
    have hw3 : H3 w = some (.ins (He.ga K "Wall") dx (putF "boxes" (.ref l1) [])) := s3 _ _ upd_same
    have hl1 : H3 l1 = some (.lst (ns.map V.int)) := s3 _ _ (by rw [upd_ne n1.symm]; exact upd_same)
    walk_at "go"
    intro l3 h3
    have h3' : H3 l3 = none := by
      have n : l3 ≠ w := fun e => by rw [e, upd_same] at h3; cases h3
      rw [upd_ne n] at h3; exact h3
    have n3 : w ≠ l3 := ne_of_none hw3 h3'
    have n13 : l1 ≠ l3 := ne_of_none hl1 h3'
    have n23 : l2 ≠ l3 := ne_of_none hD h3'
    walk_at "go"
    have fr3 : H' l3 = none := by
      cases q : H' l3 with
      | none => rfl
      | some o =>
        have := s3 l3 o (by rw [upd_ne n3.symm, upd_ne n13.symm]; exact q)
        rw [h3'] at this; cases this
    refine k ok _ l1 l2 l3 ⟨?_, ?_, ?_, ?_, n12.symm, n13, n23, by simp, ok.2.1, by simp, ?_⟩ h1 f1 fr3 ?_
    · rw [upd_same]
      exact congrArg (fun q => some (HO.ins (He.ga K "Wall") dx q)) wf_new
    · show upd _ w _ l1 = _
      rw [upd_ne n1.symm, upd_ne n1.symm, upd_ne n13, upd_ne n1.symm]; exact hl1
    · show upd _ w _ l2 = _
      rw [upd_ne n2.symm, upd_ne n2.symm, upd_ne n23, upd_ne n2.symm, hD]
      have e : ∀ l : List Int, l.map (fun _ => V.non) = (List.replicate l.length (none : Option Nat)).map optV := fun l => by
        rw [List.map_replicate]
        induction l with
        | nil => rfl
        | cons x r ih => rw [List.map_cons, List.length_cons, List.replicate_succ, ih]; rfl
      rw [e]
    · refine ⟨[], ?_, rfl, fun j t q => by simp at q⟩
      show upd _ w _ l3 = _
      rw [upd_ne n3.symm, upd_ne n3.symm, upd_same]; rfl
    · intro j n q
      have q : (List.replicate ns.length none)[j]? = some (some n) := q
      rw [List.getElem?_replicate] at q
      split at q
      · cases q
      · cases q
    · intro b o e hb
      rw [upd_ne hb, upd_ne hb, upd_ne (fun z => by rw [z, fr3] at e; cases e), upd_ne hb]
      exact s3 b o (by rw [upd_ne hb, upd_ne (fun z => by rw [z, h1] at e; cases e)]; exact e)
theorem newWall {K : PySem.W.Frag} {H : Hp} {a : Addr} {zs : List Int} {Q : Addr → Hp → Prop} {E : XK} (hA : SqL K H a (zs.map V.int)) (ok : OkW zs)
    (k : ∀ x dx l1 l2 l3 H', Same H H' → WallAt K H' ⟨x, dx, l1, l2, l3, zs, List.replicate zs.length none, [], 0⟩ → H x = none → H l1 = none → H l2 = none → H l3 = none → Q x H') :
    ∀ x dx, H x = none → H dx = none → dx ≠ x → sp_Wall_init K [.ref x, .ref a] (upd (upd H dx (.own x)) x (.ins (He.ga K "Wall") dx [])) (fun v H2 => v = .non ∧ Q x H2) E := by
  intro x dx hx hdx hne
  have s3 : Same H (upd (upd H dx (.own x)) x (.ins (He.ga K "Wall") dx [])) := sameNew (sameNew (Same.refl _) hdx) (by rw [upd_ne (Ne.symm hne)]; exact hx)
  have l8 := ok.2.1
  refine ⟨x, dx, a, zs, rfl, upd_same, s3.seq hA, by omega, fun _ H2 l1 l2 l3 A n1 n2 n3 fr => ?_, fun nok => absurd ok nok⟩
  exact ⟨rfl, k x dx l1 l2 l3 H2 (fun c o e => fr c o (s3 c o e) (ne_of_none e hx)) A hx (s3.free n1) (s3.free n2) (s3.free n3)⟩
end Pw
namespace Pw
def sp_Wall_night (K : PySem.W.Frag) : Sp := fun vs H Q _ => ∃ (s : WS), WallAt K H s ∧ vs = [.ref s.w] ∧ ∀ (ids : List Int) (H' : Hp) (p : Addr), ids.Perm (backOf s.parcels (s.today + 1) s.inside) → ids.Pairwise (· ≤ ·) → Frm s H H' → WallAt K H' s.nighted → H p = none → H' p = some (.lst (ids.map V.int)) → p ≠ s.w → p ≠ s.l1 → p ≠ s.l2 → p ≠ s.l3 → Q (.ref p) H'
theorem len_Wall_night {K : PySem.W.Frag} : ∀ vs H Q E, sp_Wall_night K vs H Q E → vs.length = 1 := by
  rintro vs H Q E ⟨_, _, rfl, _⟩
  rfl
def t_Wall_night (K : PySem.W.Frag) (E : XK) : TS :=
  tSeq (sFld K (tVar 0) (tOp rAddI (tFld K (tVar 0) "today") (tC (.int 1))) "today")
    (tSeq (tAsg (tLst tNil) (gName 1))
    (tSeq (tForP (iRng1 (tCons (tCB (rLenSeq K) (tCons (tFld K (tVar 0) "boxes") tNil)) tNil)) (gName 2) (tSeq (tAsg (tOp (rIxL K) (tFld K (tVar 0) "inside") (tVar 2)) (gName 3))
    (tIfS (tAnd (tTest (tOp rNotNone (tVar 3) (tC .non))) (tTest (tOp rLe (tOp (rIxT K) (tOp (rIxL K) (tFld K (tVar 0) "parcels") (tVar 3)) (tC (.int 1))) (tFld K (tVar 0) "today")))) (tSeq (tDrop (tBM K "list" rAppend (tVar 1) (tCons (tVar 3) tNil)))
    (tAsg (tC .non) (gSub (tFld K (tVar 0) "inside") (tVar 2) rSetL))) (tNext))))
    (tRet (tCB (rSortedI K) (tCons (tVar 1) tNil)))))
theorem pure_Wall_night {K : PySem.W.Frag} (T : TW K) (vs : List V) (H : Hp) (Q : VK) (E : XK) (h : sp_Wall_night K vs H Q E) : t_Wall_night K E { nx := fun _ H' => Q .non H', rt := Q } (start ["self", "back", "box", "parcel"] vs) H := by
  obtain ⟨s, A, rfl, k⟩ := h
  obtain ⟨tcl, tnb, tni, tnp, tnt⟩ := id T
  have hob := A.ob
  have hl := A.len
  have l8 := A.l8
  unfold t_Wall_night
  walk_at "go"
  rw [wf_put]
  have A1 := A.dayUpd (s.today + 1)
  have f1 : Frm s H (upd H s.w (.ins (He.ga K "Wall") s.dx (wf s.l1 s.l2 s.l3 (s.today + 1)))) := fun x o e n1 n2 n3 => by rw [upd_ne n1]; exact e
  have fr1 : ∀ x, upd H s.w (.ins (He.ga K "Wall") s.dx (wf s.l1 s.l2 s.l3 (s.today + 1))) x = none → H x = none := fun x q => updFree q
  generalize upd H s.w (.ins (He.ga K "Wall") s.dx (wf s.l1 s.l2 s.l3 (s.today + 1))) = H1 at A1 f1 fr1
  have hob1 : H1 s.w = some (.ins (He.ga K "Wall") s.dx (wf s.l1 s.l2 s.l3 (s.today + 1))) := A1.ob
  have hbx1 : H1 s.l1 = some (.lst (s.sizes.map V.int)) := A1.bx
  walk_at "go"
  intro q hq
  have s2 : Same H1 (upd H1 q (.lst [])) := sameNew (Same.refl _) hq
  have A2 := A1.mono s2
  have hq2 : upd H1 q (.lst []) q = some (.lst []) := upd_same
  have f2 : Frm s H (upd H1 q (.lst [])) := f1.trans (Frm.same s2)
  have qw : q ≠ s.w := Ne.symm (ne_of_none A1.ob hq)
  have q1 : q ≠ s.l1 := Ne.symm (ne_of_none A1.bx hq)
  have q2 : q ≠ s.l2 := Ne.symm (ne_of_none A1.is hq)
  have q3 : q ≠ s.l3 := by
    obtain ⟨ts, h1, _⟩ := A1.ps
    exact Ne.symm (ne_of_none h1 hq)
  have hq := fr1 q hq
  generalize upd H1 q (.lst []) = H2 at A2 hq2 f2
  have hob2 : H2 s.w = some (.ins (He.ga K "Wall") s.dx (wf s.l1 s.l2 s.l3 (s.today + 1))) := A2.ob
  have hbx2 : H2 s.l1 = some (.lst (s.sizes.map V.int)) := A2.bx
  walk_at "go"
  refine forRange (n := (((s.sizes.map V.int).length : Nat) : Int).toNat) (fun i σ H' => Stop (∃ (v2 v3 : Option V), σ = [some (.ref s.w), some (.ref q), v2, v3] ∧ Frm s H H' ∧
    WallAt K H' ((s.on (s.today + 1)).ins ((s.inside.take i).map (nightF s.parcels (s.today + 1)) ++ s.inside.drop i)) ∧ H' q = some (.lst ((backOf s.parcels (s.today + 1) (s.inside.take i)).map V.int)))) ⟨none, none, rfl, f2, by simp only [List.take_zero, List.drop_zero, List.map_nil, List.nil_append]; exact A2, by rw [hq2]; rfl⟩ ?_ ?_
  · rintro i σ H3 hi ⟨v2, v3, rfl, f3, A3, hq3⟩
    simp only [List.length_map] at hi
    have hob3 : H3 s.w = some (.ins (He.ga K "Wall") s.dx (wf s.l1 s.l2 s.l3 (s.today + 1))) := A3.ob
    have his3 : H3 s.l2 = some (.lst (((s.inside.take i).map (nightF s.parcels (s.today + 1)) ++ s.inside.drop i).map optV)) := A3.is
    obtain ⟨x, hx⟩ := getOf (xs := s.inside) (i := i) (by omega)
    have e0 : ((0 : Int) + (i : Int)) = (i : Int) := by omega
    have hx3 : atI (((s.inside.take i).map (nightF s.parcels (s.today + 1)) ++ s.inside.drop i).map optV) ((0 : Int) + (i : Int)) = some (optV x) := at_of (j := i) e0 (getMap (nightAt.trans hx))
    have hst := nightStep (f := nightF s.parcels (s.today + 1)) hx
    have hlen : ((s.inside.take i).map (nightF s.parcels (s.today + 1)) ++ s.inside.drop i).length = s.sizes.length := A3.len
    have hbk : backOf s.parcels (s.today + 1) (s.inside.take (i + 1)) = backOf s.parcels (s.today + 1) (s.inside.take i) ++ (if dueB s.parcels (s.today + 1) x = true then [((x.getD 0 : Nat) : Int)] else []) := by
      unfold backOf
      exact filterTake hx
    have hnl : (backOf s.parcels (s.today + 1) (s.inside.take i)).length ≤ 8 := by
      unfold backOf
      rw [List.length_map]
      exact Nat.le_trans (List.length_filter_le _ _) (by rw [List.length_take]; omega)
    cases x with
    | none =>
      have hx3 : atI (((s.inside.take i).map (nightF s.parcels (s.today + 1)) ++ s.inside.drop i).map optV) ((0 : Int) + (i : Int)) = some .non := hx3
      walk_at "go"
      rw [hbk, ← hst]
      refine ⟨_, _, rfl, f3, ?_, ?_⟩
      · rw [setSame (x := nightF s.parcels (s.today + 1) none) (nightAt.trans hx)]; exact A3
      · rw [hq3]; simp [dueB]
    | some m =>
      have hx3 : atI (((s.inside.take i).map (nightF s.parcels (s.today + 1)) ++ s.inside.drop i).map optV) ((0 : Int) + (i : Int)) = some (.int (m : Int)) := hx3
      obtain ⟨ts, t, h1, h2, h3, h4⟩ := A3.tup (m := m) (A.nb i m hx)
      have h1 : H3 s.l3 = some (.lst (ts.map V.ref)) := h1
      have h4 : H3 t = some (.tup [.int (s.parcels.getD m (0, 0)).1, .int (s.parcels.getD m (0, 0)).2]) := h4
      walk_at "go"
      refine ifD (fun c => ?_) (fun c => ?_)
      · have hd : dueB s.parcels (s.today + 1) (some m) = true := decide_eq_true c
        walk_at "go"
        have A4 := A3.lstUpd (ys := (backOf s.parcels (s.today + 1) (s.inside.take i)).map V.int ++ [V.int (m : Int)]) hq3 q1 q2 q3
        have f4 : Frm s H (upd H3 q (.lst ((backOf s.parcels (s.today + 1) (s.inside.take i)).map V.int ++ [V.int (m : Int)]))) := fun x o e n1 n2 n3 => by rw [upd_ne (ne_of_none e hq)]; exact f3 x o e n1 n2 n3
        have hq4 : upd H3 q (.lst ((backOf s.parcels (s.today + 1) (s.inside.take i)).map V.int ++ [V.int (m : Int)])) q = some (.lst ((backOf s.parcels (s.today + 1) (s.inside.take i)).map V.int ++ [V.int (m : Int)])) := upd_same
        generalize upd H3 q (.lst ((backOf s.parcels (s.today + 1) (s.inside.take i)).map V.int ++ [V.int (m : Int)])) = H4 at A4 f4 hq4
        have hob4 : H4 s.w = some (.ins (He.ga K "Wall") s.dx (wf s.l1 s.l2 s.l3 (s.today + 1))) := A4.ob
        have his4 : H4 s.l2 = some (.lst (((s.inside.take i).map (nightF s.parcels (s.today + 1)) ++ s.inside.drop i).map optV)) := A4.is
        walk_at "go"
        refine ⟨ixN_of (by omega) (by rw [List.length_map]; omega), ?_⟩
        have ei : ((0 : Int) + (i : Int)).toNat = i := by omega
        have hn : nightF s.parcels (s.today + 1) (some m) = none := by unfold nightF; rw [if_pos hd]
        rw [hn] at hst
        dsimp only
        rw [ei, setNon, hst, hbk, if_pos hd]
        have A5 := A4.insUpd (l := (s.inside.take (i + 1)).map (nightF s.parcels (s.today + 1)) ++ s.inside.drop (i + 1)) (by rw [← hst, List.length_set]; exact hlen) (by rw [← hst]; exact nbSet A4.nb fun n q => (by cases q))
        refine ⟨_, _, rfl, fun x o e n1 n2 n3 => by rw [upd_ne n2]; exact f4 x o e n1 n2 n3, A5, ?_⟩
        rw [upd_ne q2, hq4, List.map_append]; rfl
      · have hd : ¬ dueB s.parcels (s.today + 1) (some m) = true := fun q => c (of_decide_eq_true q)
        have hn : nightF s.parcels (s.today + 1) (some m) = some m := by unfold nightF; rw [if_neg hd]
        rw [hbk, ← hst, if_neg hd, List.append_nil]
        refine ⟨_, _, rfl, f3, ?_, hq3⟩
        rw [hn, setSame (nightAt.trans hx)]; exact A3
  · rintro σ H3 ⟨v2, v3, rfl, f3, A3, hq3⟩
    have e : (((s.sizes.map V.int).length : Nat) : Int).toNat = s.inside.length := by simp; omega
    rw [e, List.take_length, List.drop_length, List.append_nil] at A3
    rw [e, List.take_length] at hq3
    have hnl : (backOf s.parcels (s.today + 1) s.inside).length ≤ 8 := by
      unfold backOf
      rw [List.length_map]
      exact Nat.le_trans (List.length_filter_le _ _) (by omega)
    walk_at "go"
    intro ids p hperm hsort hp
    have s4 : Same H3 (upd H3 p (.lst (ids.map V.int))) := sameNew (Same.refl _) hp
    have pw : p ≠ s.w := Ne.symm (ne_of_none A3.ob hp)
    have p1 : p ≠ s.l1 := Ne.symm (ne_of_none A3.bx hp)
    have p2 : p ≠ s.l2 := Ne.symm (ne_of_none A3.is hp)
    have p3 : p ≠ s.l3 := by
      obtain ⟨ts, h1, _⟩ := A3.ps
      exact Ne.symm (ne_of_none h1 hp)
    have hp0 : H p = none := by
      cases hh : H p with
      | none => rfl
      | some o => rw [f3 p o hh pw p2 p3] at hp; cases hp
    exact k ids _ p hperm hsort (f3.trans (Frm.same s4)) (A3.mono s4) hp0 upd_same pw p1 p2 p3
end Pw
namespace Pw
def sp_least_box (K : PySem.W.Frag) : Sp := fun vs H Q _ => ∃ (a f : Addr) (sizes : List Int) (fs : List Nat) (size : Int), vs = [.ref a, .ref f, .int size] ∧ SqL K H a (sizes.map V.int) ∧ SqL K H f (fs.map fun i : Nat => V.int (i : Int)) ∧ sizes.length ≤ 1000 ∧ fs.length ≤ 1000 ∧
  fs.Pairwise (· < ·) ∧ (∀ b ∈ fs, b < sizes.length) ∧ ((∀ b ∈ fs, sizes.getD b 0 < size) → Q .non H) ∧ ∀ b, LB sizes fs size b → Q (.int (b : Nat)) H
theorem len_least_box {K : PySem.W.Frag} : ∀ vs H Q E, sp_least_box K vs H Q E → vs.length = 3 := by
  rintro vs H Q E ⟨_, _, _, _, _, rfl, _⟩
  rfl
def t_least_box (K : PySem.W.Frag) (E : XK) : TS :=
  tSeq (tAsg (tC .non) (gName 3))
    (tSeq (tForP (iList K (tVar 1)) (gName 4) (tIfS (tAnd (tTest (tOp rGe (tOp (rIxL K) (tVar 0) (tVar 4)) (tVar 2))) (tOr (tTest (tOp rIsNone (tVar 3) (tC .non))) (tTest (tOp rLt (tOp (rIxL K) (tVar 0) (tVar 4)) (tOp (rIxL K) (tVar 0) (tVar 3)))))) (tAsg (tVar 4) (gName 3)) (tNext)))
    (tRet (tVar 3)))
theorem pure_least_box {K : PySem.W.Frag} (vs : List V) (H : Hp) (Q : VK) (E : XK) (h : sp_least_box K vs H Q E) : t_least_box K E { nx := fun _ H' => Q .non H', rt := Q } (start ["sizes", "free", "size", "found", "box"] vs) H := by
  obtain ⟨a, f, sizes, fs, size, rfl, hA, hF, l1, l2, srt, hlt, kN, kB⟩ := h
  unfold t_least_box
  walk_at "go"
  refine forList (K := K) (a := f) (xs := fs.map fun i : Nat => V.int (i : Int)) (fun i σ H' => Stop (∃ (v : Option V), H' = H ∧ ((∃ x, σ = [some (.ref a), some (.ref f), some (.int size), some .non, x] ∧ ∀ b ∈ fs.take i, sizes.getD b 0 < size) ∨
      (∃ x b, σ = [some (.ref a), some (.ref f), some (.int size), some (.int ((b : Nat) : Int)), x] ∧ LB sizes (fs.take i) size b)))) ⟨none, rfl, .inl ⟨none, rfl, by simp⟩⟩ ?_ ?_ ?_
  · rintro i σ H' _ ⟨v, rfl, _⟩
    exact hF
  · rintro i x σ H' hi ⟨v, rfl, ⟨y, rfl, hn⟩ | ⟨y, b, rfl, hb⟩⟩
    · obtain ⟨n, hn', rfl⟩ := mapGet hi
      have hlt' := hlt n (List.mem_of_getElem? hn')
      have e : ((n : Nat) : Int).toNat = n := by omega
      walk_at "go"
      rw [e]
      refine ifD (fun c => ?_) (fun c => ?_)
      · walk_at "go"
        refine ⟨none, rfl, .inr ⟨_, n, rfl, ?_⟩⟩
        rw [takeMore hn']
        refine ⟨by simp, c, fun m hm hc => ?_⟩
        rcases List.mem_append.mp hm with q | q
        · have := hn m q; omega
        · rw [List.mem_singleton.mp q]; omega
      · refine ⟨none, rfl, .inl ⟨_, rfl, fun m hm => ?_⟩⟩
        rw [takeMore hn'] at hm
        rcases List.mem_append.mp hm with q | q
        · exact hn m q
        · rw [List.mem_singleton.mp q]; omega
    · obtain ⟨n, hn', rfl⟩ := mapGet hi
      have hlt' := hlt n (List.mem_of_getElem? hn')
      have hltb := hlt b (List.mem_of_mem_take hb.1)
      have e : ((n : Nat) : Int).toNat = n := by omega
      have eb : ((b : Nat) : Int).toNat = b := by omega
      have bn : b < n := by
        have := List.pairwise_iff_getElem.mp srt
        obtain ⟨j, hj, ej⟩ := List.mem_iff_getElem.mp hb.1
        rw [List.length_take] at hj
        rw [List.getElem_take] at ej
        have hi' := getLt hn'
        have q := this j i (by omega) hi' (by omega)
        rw [ej] at q
        have : fs[i] = n := by rw [List.getElem?_eq_getElem hi'] at hn'; exact Option.some.inj hn'
        omega
      have keep : ¬ (size ≤ sizes.getD n 0 ∧ sizes.getD n 0 < sizes.getD b 0) → LB sizes (fs.take (i + 1)) size b := fun c => by
        rw [takeMore hn']
        refine ⟨List.mem_append.mpr (.inl hb.1), hb.2.1, fun m hm hc => ?_⟩
        rcases List.mem_append.mp hm with q | q
        · exact hb.2.2 m q hc
        · rw [List.mem_singleton.mp q] at hc ⊢; omega
      walk_at "go"
      rw [e]
      refine ifD (fun c => ?_) (fun c => ?_)
      · walk_at "go"
        rw [e, eb]
        refine ifD (fun c2 => ?_) (fun c2 => ?_)
        · walk_at "go"
          refine ⟨none, rfl, .inr ⟨_, n, rfl, ?_⟩⟩
          rw [takeMore hn']
          refine ⟨by simp, c, fun m hm hc => ?_⟩
          rcases List.mem_append.mp hm with q | q
          · have := hb.2.2 m q hc
            omega
          · rw [List.mem_singleton.mp q]; omega
        · exact ⟨none, rfl, .inr ⟨_, b, rfl, keep (by omega)⟩⟩
      · exact ⟨none, rfl, .inr ⟨_, b, rfl, keep (by omega)⟩⟩
  · rintro σ H' ⟨v, rfl, ⟨y, rfl, hn⟩ | ⟨y, b, rfl, hb⟩⟩
    · rw [List.length_map, List.take_length] at hn
      walk_at "go"
      exact kN hn
    · rw [List.length_map, List.take_length] at hb
      walk_at "go"
      exact kB b hb
end Pw
namespace Pw
def sp_Wall_free (K : PySem.W.Frag) : Sp := fun vs H Q _ => ∃ (s : WS), WallAt K H s ∧ vs = [.ref s.w] ∧ RetNew H Q ((freeL s.inside).map fun i : Nat => V.int (i : Int))
theorem len_Wall_free {K : PySem.W.Frag} : ∀ vs H Q E, sp_Wall_free K vs H Q E → vs.length = 1 := by
  rintro vs H Q E ⟨_, _, rfl, _⟩
  rfl
def t_Wall_free (K : PySem.W.Frag) (E : XK) : TS :=
  tRet (tLc (iRng1 (tCons (tCB (rLenSeq K) (tCons (tFld K (tVar 0) "boxes") tNil)) tNil)) (gName 1) (tTest (tOp rIsNone (tOp (rIxL K) (tFld K (tVar 0) "inside") (tVar 1)) (tC .non))) (tVar 1) [1])
theorem pure_Wall_free {K : PySem.W.Frag} (T : TW K) (vs : List V) (H : Hp) (Q : VK) (E : XK) (h : sp_Wall_free K vs H Q E) : t_Wall_free K E { nx := fun _ H' => Q .non H', rt := Q } (start ["self", "box"] vs) H := by
  obtain ⟨s, A, rfl, k⟩ := h
  obtain ⟨tcl, tnb, tni, tnp, tnt⟩ := id T
  have hob := A.ob
  have his := A.is
  have hbx := A.bx
  have hl := A.len
  have h8 := A.l8
  unfold t_Wall_free
  walk_at "go"
  intro p hp
  refine lcRng (n := (((s.sizes.map V.int).length : Nat) : Int).toNat) (fun i => (s.inside.getD i none).isNone) (fun i : Nat => V.int (i : Int)) hp (by simp; omega) (fun _ => rfl) (fun i H' hi s' TT k' => ?_) (fun i H' hi _ s' Qv k' => ?_) (fun H' s' hD => ?_)
  · simp only [List.length_map] at hi
    walk_at "go"
    refine ⟨atMap none (by omega) (by omega), ?_⟩
    walk_at "go"
    rw [isNone_opt]
    have e : ((0 : Int) + (i : Int)).toNat = i := by omega
    rw [e]
    exact k' _ (Same.refl _)
  · walk_at "go"
    have e : (0 : Int) + (i : Int) = (i : Int) := by omega
    rw [e]
    exact k' _ (Same.refl _)
  · refine k _ p s' hp ?_
    have e : (((s.sizes.map V.int).length : Nat) : Int).toNat = s.inside.length := by simp; omega
    rw [e] at hD
    exact hD
end Pw
namespace Pw
def sp_Wall_come (K : PySem.W.Frag) : Sp := fun vs H Q E => ∃ (s : WS), WallAt K H s ∧ ∃ (size nights : Int), vs = [.ref s.w, .int size, .int nights] ∧ s.parcels.length < 1000 ∧
  (¬ (1 ≤ size ∧ size ≤ 9) → E (.ref (He.ga K "NoSize")) none H) ∧
  ((1 ≤ size ∧ size ≤ 9) → ¬ (1 ≤ nights ∧ nights ≤ 9) → E (.ref (He.ga K "NoNights")) none H) ∧
  ((1 ≤ size ∧ size ≤ 9) → (1 ≤ nights ∧ nights ≤ 9) → (∀ b ∈ freeL s.inside, s.sizes.getD b 0 < size) → ∀ H', Same H H' → E (.ref (He.ga K "NoBox")) none H') ∧
  ((1 ≤ size ∧ size ≤ 9) → (1 ≤ nights ∧ nights ≤ 9) → ∀ b H', LB s.sizes (freeL s.inside) size b → Frm s H H' → WallAt K H' (s.came b size (s.today + nights)) → Q (.int (s.parcels.length : Nat)) H')
theorem len_Wall_come {K : PySem.W.Frag} : ∀ vs H Q E, sp_Wall_come K vs H Q E → vs.length = 3 := by
  rintro vs H Q E ⟨_, _, _, _, rfl, _⟩
  rfl
def t_Wall_come (K : PySem.W.Frag) (E : XK) : TS :=
  tSeq (tIfS (tNot (tB (tCall (sp_is_size K) [] E0 (tCons (tVar 1) tNil)))) (tRaise E (He.ga K "NoSize")) (tNext))
    (tSeq (tIfS (tOr (tTest (tOp rLt (tVar 2) (tC (.int 1)))) (tTest (tOp rGt (tVar 2) (tC (.int 9))))) (tRaise E (He.ga K "NoNights")) (tNext))
    (tSeq (tAsg (tCall (sp_least_box K) [] E0 (tCons (tFld K (tVar 0) "boxes") (tCons (tMeth (He.ga K "Wall") "free" (sp_Wall_free K) [] E0 (tVar 0) tNil) (tCons (tVar 1) tNil)))) (gName 3))
    (tSeq (tIfS (tTest (tOp rIsNone (tVar 3) (tC .non))) (tRaise E (He.ga K "NoBox")) (tNext))
    (tSeq (tDrop (tBM K "list" rAppend (tFld K (tVar 0) "parcels") (tCons (tTup (tCons (tVar 1) (tCons (tOp rAddI (tFld K (tVar 0) "today") (tVar 2)) tNil))) tNil)))
    (tSeq (tAsg (tOp rSubI (tCB (rLenSeq K) (tCons (tFld K (tVar 0) "parcels") tNil)) (tC (.int 1))) (gSub (tFld K (tVar 0) "inside") (tVar 3) rSetL))
    (tRet (tOp rSubI (tCB (rLenSeq K) (tCons (tFld K (tVar 0) "parcels") tNil)) (tC (.int 1)))))))))
theorem pure_Wall_come {K : PySem.W.Frag} (T : TW K) (vs : List V) (H : Hp) (Q : VK) (E : XK) (h : sp_Wall_come K vs H Q E) : t_Wall_come K E { nx := fun _ H' => Q .non H', rt := Q } (start ["self", "size", "nights", "box"] vs) H := by
  obtain ⟨s, A, size, nights, rfl, hp, e1, e2, e3, k⟩ := h
  obtain ⟨tcl, tnb, tni, tnp, tnt⟩ := id T
  have hob := A.ob
  have hbx := A.bx
  have h8 := A.l8
  have hl := A.len
  unfold t_Wall_come
  walk_at "go"
  refine ifN (fun c => e1 c) (fun c => ?_)
  walk_at "go"
  refine ifD (fun c2 => e2 c (by omega)) (fun c2 => ?_)
  walk_at "go"
  refine ifD (fun c3 => e2 c (by omega)) (fun c3 => ?_)
  have cn : 1 ≤ nights ∧ nights ≤ 9 := by omega
  walk_at "go"
  intro H1 p s1 hp0 hp1
  have A1 := A.mono s1
  have hob1 := A1.ob
  have hbx1 := SqL.of (K := K) A1.bx
  have fl := free_len s.inside
  walk_at "go"
  refine ⟨free_lt _, fun b hb => by have := (mem_free.mp hb).1; omega, fun hn => ?_, fun b hb => ?_⟩
  · walk_at "go"
    exact e3 c cn hn _ s1
  · obtain ⟨ts, hps, htl, htt⟩ := A1.ps
    have hbl := (mem_free.mp hb.1).1
    walk_at "go"
    intro t ht
    have st : Same H1 (upd H1 t (.tup [V.int size, V.int (s.today + nights)])) := sameNew (Same.refl _) ht
    have A2 := A1.mono st
    have e : upd H1 t (.tup [V.int size, V.int (s.today + nights)]) t = some (.tup [V.int size, V.int (s.today + nights)]) := upd_same
    have hps2 := st _ _ hps
    have htt2 : ∀ (j : Nat) (t' : Addr), ts[j]? = some t' → upd H1 t (.tup [V.int size, V.int (s.today + nights)]) t' = some (.tup [.int (s.parcels.getD j (0, 0)).1, .int (s.parcels.getD j (0, 0)).2]) := fun j t' q => st _ _ (htt j t' q)
    have Z := A2.came (b := b) hps2 htl htt2 e hp
    have s2 := s1.trans st
    generalize upd H1 t (.tup [V.int size, V.int (s.today + nights)]) = H2 at A2 e hps2 htt2 Z s2
    have hob2 := A2.ob
    walk_at "go"
    have hob3 : upd H2 s.l3 (.lst (ts.map V.ref ++ [V.ref t])) s.w = some (.ins (He.ga K "Wall") s.dx (wf s.l1 s.l2 s.l3 s.today)) := by
      rw [upd_ne (ne_of hob2 hps2 (by intro q; cases q))]; exact hob2
    have his3 : upd H2 s.l3 (.lst (ts.map V.ref ++ [V.ref t])) s.l2 = some (.lst (s.inside.map optV)) := by rw [upd_ne A.n23]; exact A2.is
    have hl3 : upd H2 s.l3 (.lst (ts.map V.ref ++ [V.ref t])) s.l3 = some (.lst (ts.map V.ref ++ [V.ref t])) := upd_same
    walk_at "go"
    refine ⟨ixN_of (by omega) (by rw [List.length_map]; omega), ?_⟩
    have e5 : (((ts.map V.ref ++ [V.ref t]).length : Nat) : Int) - 1 = ((s.parcels.length : Nat) : Int) := by
      rw [List.length_append, List.length_map, List.length_singleton, htl]; omega
    have eb : ((b : Nat) : Int).toNat = b := by omega
    dsimp only
    rw [e5, eb, setOpt]
    have hob4 := Z.ob
    have hl4 : upd (upd H2 s.l3 (.lst (ts.map V.ref ++ [V.ref t]))) s.l2 (.lst ((s.inside.set b (some s.parcels.length)).map optV)) s.l3 = some (.lst (ts.map V.ref ++ [V.ref t])) := by
      rw [upd_ne (Ne.symm A.n23)]; exact hl3
    have hob4 : upd (upd H2 s.l3 (.lst (ts.map V.ref ++ [V.ref t]))) s.l2 (.lst ((s.inside.set b (some s.parcels.length)).map optV)) s.w = some (.ins (He.ga K "Wall") s.dx (wf s.l1 s.l2 s.l3 s.today)) := hob4
    walk_at "go"
    dsimp only
    rw [e5]
    refine k c cn b _ hb (fun x o ex n1 n2 n3 => ?_) Z
    rw [upd_ne n2, upd_ne n3]
    exact s2 _ _ ex
end Pw
namespace Pw
def sp_Wall_see (K : PySem.W.Frag) : Sp := fun vs H Q E => ∃ (s : WS), WallAt K H s ∧ ∃ (n : Int), vs = [.ref s.w, .int n] ∧ (hasP s.inside n → Q .non H) ∧ (¬ hasP s.inside n → E (.ref (He.ga K "NoParcel")) none H)
theorem len_Wall_see {K : PySem.W.Frag} : ∀ vs H Q E, sp_Wall_see K vs H Q E → vs.length = 2 := by
  rintro vs H Q E ⟨_, _, _, rfl, _⟩
  rfl
def t_Wall_see (K : PySem.W.Frag) (E : XK) : TS :=
  tIfS (tOr (tTest (tOp rIsNone (tVar 1) (tC .non))) (tTest (tOp (rInN K) (tVar 1) (tFld K (tVar 0) "inside")))) (tRaise E (He.ga K "NoParcel")) (tNext)
theorem pure_Wall_see {K : PySem.W.Frag} (T : TW K) (vs : List V) (H : Hp) (Q : VK) (E : XK) (h : sp_Wall_see K vs H Q E) : t_Wall_see K E { nx := fun _ H' => Q .non H', rt := Q } (start ["self", "parcel"] vs) H := by
  obtain ⟨s, A, n, rfl, k, kE⟩ := h
  obtain ⟨tcl, tnb, tni, tnp, tnt⟩ := id T
  have hob := A.ob
  have his := A.is
  have hfl := flatOpt s.inside
  unfold t_Wall_see
  walk_at "go"
  refine ifNB (fun c => ?_) (fun c => ?_)
  · exact kE (inOptF c)
  · exact k (inOpt.mp c)
end Pw
namespace Pw
def sp_Wall_fetch (K : PySem.W.Frag) : Sp := fun vs H Q E => ∃ (s : WS), WallAt K H s ∧ ∃ (n : Int), vs = [.ref s.w, .int n] ∧ (∀ (m b : Nat), (m : Int) = n → Fst s.inside m b → ∀ H', Frm s H H' → WallAt K H' (s.ins (s.inside.set b none)) → Q (.int (b : Nat)) H') ∧
  (¬ hasP s.inside n → E (.ref (He.ga K "NoParcel")) none H)
theorem len_Wall_fetch {K : PySem.W.Frag} : ∀ vs H Q E, sp_Wall_fetch K vs H Q E → vs.length = 2 := by
  rintro vs H Q E ⟨_, _, _, rfl, _⟩
  rfl
def t_Wall_fetch (K : PySem.W.Frag) (E : XK) : TS :=
  tSeq (tDrop (tMeth (He.ga K "Wall") "see" (sp_Wall_see K) [] E (tVar 0) (tCons (tVar 1) tNil)))
    (tSeq (tAsg (tBM K "list" (rIndex K) (tFld K (tVar 0) "inside") (tCons (tVar 1) tNil)) (gName 2))
    (tSeq (tAsg (tC .non) (gSub (tFld K (tVar 0) "inside") (tVar 2) rSetL))
    (tRet (tVar 2))))
theorem pure_Wall_fetch {K : PySem.W.Frag} (T : TW K) (vs : List V) (H : Hp) (Q : VK) (E : XK) (h : sp_Wall_fetch K vs H Q E) : t_Wall_fetch K E { nx := fun _ H' => Q .non H', rt := Q } (start ["self", "parcel", "box"] vs) H := by
  obtain ⟨s, A, n, rfl, k, kE⟩ := h
  obtain ⟨tcl, tnb, tni, tnp, tnt⟩ := id T
  have hob := A.ob
  have his := A.is
  have hfl := flatOpt s.inside
  unfold t_Wall_fetch
  walk_at "go"
  refine ⟨?_, kE⟩
  rintro ⟨m, rfl, hm⟩
  obtain ⟨b, hb⟩ := fst_of hm
  obtain ⟨i1, i2, i3⟩ := hb.idx
  have hbl := hb.lt
  walk_at "go"
  refine ⟨ixN_of (by omega) (by rw [List.length_map]; omega), ?_⟩
  have eb : ((b : Nat) : Int).toNat = b := by omega
  dsimp only
  rw [eb, setNon]
  walk_at "go"
  refine k m b rfl hb _ (fun x o e n1 n2 n3 => by rw [upd_ne n2]; exact e) (A.insUpd (by rw [List.length_set]; exact A.len) (nbSet A.nb fun n q => (by cases q)))
end Pw
namespace Pw
/-! ### deeds one after the other -/
inductive Runs (sizes : List Int) : List Deed → List Ans → List (Option Nat) → List (Int × Int) → Int → Prop where
  | nil : Runs sizes [] [] (List.replicate sizes.length none) [] 0
  | snoc {ds as is ps td d a is' ps' td'} : Runs sizes ds as is ps td → Does sizes is ps td d a is' ps' td' → Runs sizes (ds ++ [d]) (as ++ [a]) is' ps' td'
theorem Runs.uniq {sizes : List Int} {ds : List Deed} {as : List Ans} {is : List (Option Nat)} {ps : List (Int × Int)} {td : Int} (h : Runs sizes ds as is ps td) : ∀ {as' : List Ans} {is' : List (Option Nat)} {ps' : List (Int × Int)} {td' : Int}, Runs sizes ds as' is' ps' td' → as = as' ∧ is = is' ∧ ps = ps' ∧ td = td' := by
  induction h with
  | nil =>
    intro as' is' ps' td' h'
    generalize hd : ([] : List Deed) = ds at h'
    cases h' with
    | nil => exact ⟨rfl, rfl, rfl, rfl⟩
    | snoc r d => simp at hd
  | snoc r d ih =>
    intro as' is' ps' td' h'
    generalize hd : _ ++ [_] = ds at h'
    cases h' with
    | nil => simp at hd
    | snoc r' d' =>
      obtain ⟨e1, e2⟩ := List.append_inj' hd rfl
      have e2 := List.head_eq_of_cons_eq e2
      subst e1 e2
      obtain ⟨a1, a2, a3, a4⟩ := ih r'
      subst a1 a2 a3 a4
      obtain ⟨b1, b2, b3, b4⟩ := d.uniq d'
      subst b1 b2 b3 b4
      exact ⟨rfl, rfl, rfl, rfl⟩
theorem Runs.len {sizes : List Int} {ds : List Deed} {as : List Ans} {is : List (Option Nat)} {ps : List (Int × Int)} {td : Int} (h : Runs sizes ds as is ps td) : as.length = ds.length ∧ ps.length ≤ ds.length ∧ is.length = sizes.length := by
  induction h with
  | nil => exact ⟨rfl, Nat.le_refl _, by simp⟩
  | snoc r d ih =>
    obtain ⟨h1, h2, h3⟩ := ih
    refine ⟨by rw [List.length_append, List.length_append, h1]; rfl, ?_, ?_⟩
    · rw [List.length_append, List.length_singleton]
      cases d <;> first | omega | (rw [List.length_append, List.length_singleton]; omega)
    · cases d <;> first | exact h3 | (rw [List.length_map]; exact h3) | (rw [List.length_set]; exact h3) | (rw [List.length_set, List.length_set]; exact h3)
/-- deeds' tuples -/
structure DeedL (H : Hp) (qs : List Addr) (ds : List Deed) : Prop where
  len : qs.length = ds.length
  at_ : ∀ (i : Nat) (q : Addr) (d : Deed), qs[i]? = some q → ds[i]? = some d → H q = some (.tup d.vs)
theorem DeedL.mono {H H' : Hp} {qs : List Addr} {ds : List Deed} (h : DeedL H qs ds) (s : Same H H') : DeedL H' qs ds := ⟨h.len, fun i q d a b => s _ _ (h.at_ i q d a b)⟩
theorem DeedL.snoc {H : Hp} {qs : List Addr} {ds : List Deed} (h : DeedL H qs ds) {q : Addr} {d : Deed} (hq : H q = some (.tup d.vs)) : DeedL H (qs ++ [q]) (ds ++ [d]) := by
  refine ⟨by rw [List.length_append, List.length_append, h.len]; rfl, fun i r e h1 h2 => ?_⟩
  rcases getSnoc h1 with a | ⟨a1, a2⟩ <;> rcases getSnoc h2 with b | ⟨b1, b2⟩
  · exact h.at_ i r e a b
  · have := getLt a
    have := h.len
    omega
  · have := getLt b
    have := h.len
    omega
  · rw [a2, b2]; exact hq
/-- answers as values -/
structure AnsL (H : Hp) (as : List Addr) (anss : List Ans) (vs : List V) : Prop where
  len : vs.length = anss.length
  at_ : ∀ (i : Nat) (a : Ans) (v : V), anss[i]? = some a → vs[i]? = some v → AnsD H as a v
  dis : ∀ (i j : Nat) (q : Addr), vs[i]? = some (.ref q) → vs[j]? = some (.ref q) → i = j
theorem AnsL.nil {H : Hp} {as : List Addr} : AnsL H as [] [] := ⟨rfl, fun i a v h => by simp at h, fun i j q h => by simp at h⟩
theorem AnsD.kp {H H' : Hp} {as bs : List Addr} {a : Ans} {v : V} (h : AnsD H as a v) (k : Kp bs H H') (hb : ∀ z ∈ bs, z ∈ as) : AnsD H' as a v := by
  cases a with
  | no u => exact h
  | num n => exact h
  | non => exact h
  | ids l =>
    obtain ⟨q, h1, h2, h3⟩ := h
    exact ⟨q, h1, k q _ h2 fun m => h3 (hb q m), h3⟩
theorem AnsD.less {H : Hp} {as bs : List Addr} {a : Ans} {v : V} (h : AnsD H as a v) (hb : ∀ z ∈ bs, z ∈ as) : AnsD H bs a v := by
  cases a with
  | no u => exact h
  | num n => exact h
  | non => exact h
  | ids l =>
    obtain ⟨q, h1, h2, h3⟩ := h
    exact ⟨q, h1, h2, fun m => h3 (hb q m)⟩
theorem AnsD.refOf {H : Hp} {as : List Addr} {a : Ans} {q : Addr} (h : AnsD H as a (.ref q)) : ∃ l, a = .ids l ∧ H q = some (.lst (l.map V.int)) ∧ q ∉ as := by
  cases a with
  | no u => cases h
  | num n => cases h
  | non => cases h
  | ids l =>
    obtain ⟨r, h1, h2, h3⟩ := h
    cases h1
    exact ⟨l, rfl, h2, h3⟩
theorem AnsL.kp {H H' : Hp} {as bs : List Addr} {anss : List Ans} {vs : List V} (h : AnsL H as anss vs) (k : Kp bs H H') (hb : ∀ z ∈ bs, z ∈ as) : AnsL H' as anss vs := ⟨h.len, fun i a v h1 h2 => (h.at_ i a v h1 h2).kp k hb, h.dis⟩
theorem AnsL.mono {H H' : Hp} {as : List Addr} {anss : List Ans} {vs : List V} (h : AnsL H as anss vs) (s : Same H H') : AnsL H' as anss vs := h.kp (bs := []) (Kp.ofSame s) fun z hz => by cases hz
theorem AnsL.less {H : Hp} {as bs : List Addr} {anss : List Ans} {vs : List V} (h : AnsL H as anss vs) (hb : ∀ z ∈ bs, z ∈ as) : AnsL H bs anss vs := ⟨h.len, fun i a v h1 h2 => (h.at_ i a v h1 h2).less hb, h.dis⟩
theorem AnsL.refOf {H : Hp} {as : List Addr} {anss : List Ans} {vs : List V} (h : AnsL H as anss vs) {i : Nat} {q : Addr} (hv : vs[i]? = some (.ref q)) : ∃ l, anss[i]? = some (.ids l) ∧ H q = some (.lst (l.map V.int)) ∧ q ∉ as := by
  have hi := getLt hv
  obtain ⟨a, ha⟩ := getOf (xs := anss) (i := i) (by rw [← h.len]; exact hi)
  obtain ⟨l, e, h1, h2⟩ := (h.at_ i a _ ha hv).refOf
  rw [e] at ha
  exact ⟨l, ha, h1, h2⟩
theorem AnsL.snoc {H : Hp} {as : List Addr} {anss : List Ans} {vs : List V} (h : AnsL H as anss vs) {a : Ans} {v : V} (ha : AnsD H as a v) (hf : ∀ q, v = .ref q → ∀ i : Nat, vs[i]? ≠ some (.ref q)) : AnsL H as (anss ++ [a]) (vs ++ [v]) := by
  refine ⟨by rw [List.length_append, List.length_append, h.len]; rfl, fun i b w h1 h2 => ?_, fun i j q h1 h2 => ?_⟩
  · rcases getSnoc h1 with x | ⟨x1, x2⟩ <;> rcases getSnoc h2 with y | ⟨y1, y2⟩
    · exact h.at_ i b w x y
    · have := getLt x
      have := h.len
      omega
    · have := getLt y
      have := h.len
      omega
    · rw [x2, y2]; exact ha
  · rcases getSnoc h1 with x | ⟨x1, x2⟩ <;> rcases getSnoc h2 with y | ⟨y1, y2⟩
    · exact h.dis i j q x y
    · exact absurd x (hf q y2.symm i)
    · exact absurd y (hf q x2.symm j)
    · omega
/-- what an answer told by a call is, and that its list is new -/
theorem AnsL.fresh {H0 : Hp} {as : List Addr} {anss : List Ans} {vs : List V} (h : AnsL H0 as anss vs) {q : Addr} (h0 : H0 q = none) : ∀ i : Nat, vs[i]? ≠ some (.ref q) := fun i hv => by
  obtain ⟨l, _, h1, _⟩ := h.refOf hv
  rw [h0] at h1; cases h1
/-- a wall's answer (log.done) -/
def AnsW (s : WS) (H H' : Hp) : Ans → V → Prop
  | .no u, v => v = .str u
  | .num n, v => v = .int n
  | .ids l, v => ∃ q, v = .ref q ∧ H q = none ∧ H' q = some (.lst (l.map V.int)) ∧ q ≠ s.w ∧ q ≠ s.l1 ∧ q ≠ s.l2 ∧ q ≠ s.l3
  | .non, v => v = .non
end Pw
namespace Pw
theorem AnsL.add {H : Hp} {as : List Addr} {anss : List Ans} {vs : List V} (h : AnsL H as anss vs) {e : Addr} (he : H e = none) : AnsL H (e :: as) anss vs := ⟨h.len, fun i a v h1 h2 => by
  have q := h.at_ i a v h1 h2
  cases a with
  | no u => exact q
  | num n => exact q
  | non => exact q
  | ids l =>
    obtain ⟨r, r1, r2, r3⟩ := q
    exact ⟨r, r1, r2, consNot (ne_of_none r2 he) r3⟩, h.dis⟩
theorem AnsW.toD {s : WS} {H H' : Hp} {a : Ans} {v : V} (h : AnsW s H H' a v) {D : Addr} {o : HO} (hD : H D = some o) : AnsD H' [s.w, s.l1, s.l2, s.l3, D] a v := by
  cases a with
  | no u => exact h
  | num n => exact h
  | non => exact h
  | ids l =>
    obtain ⟨q, h1, h2, h3, h4, h5, h6, h7⟩ := h
    exact ⟨q, h1, h3, consNot h4 (consNot h5 (consNot h6 (consNot h7 (consNot (Ne.symm (ne_of_none hD h2)) nilNot))))⟩
theorem AnsW.fresh {s : WS} {H H' : Hp} {a : Ans} {q : Addr} (h : AnsW s H H' a (.ref q)) : H q = none := by
  cases a with
  | no u => cases h
  | num n => cases h
  | non => cases h
  | ids l =>
    obtain ⟨r, h1, h2, _⟩ := h
    cases h1
    exact h2
end Pw
namespace Pw
theorem sameKp {H0 H1 H2 : Hp} {as : List Addr} (s : Same H0 H1) (k : Kp as H1 H2) (h : ∀ z ∈ as, H0 z = none) : Same H0 H2 := fun x o e => k x o (s x o e) fun m => by rw [h x m] at e; cases e
theorem Does.nb {sizes : List Int} {is is' : List (Option Nat)} {ps ps' : List (Int × Int)} {td td' : Int} {d : Deed} {a : Ans} (h : Does sizes is ps td d a is' ps' td') (nb : ∀ (j n : Nat), is[j]? = some (some n) → n < ps.length) : ∀ (j n : Nat), is'[j]? = some (some n) → n < ps'.length := by
  cases h with
  | night p q =>
    intro j n hj
    rw [List.getElem?_map] at hj
    cases hx : is[j]? with
    | none => rw [hx] at hj; cases hj
    | some x =>
      rw [hx] at hj
      have hj : nightF ps (td + 1) x = some n := Option.some.inj hj
      have := nightF_some hj
      subst this
      exact nb j n hx
  | fetchNo n1 => exact nb
  | fetch f => exact nbSet nb fun n q => by cases q
  | comeNo r => exact nb
  | come i =>
    intro j n hj
    rw [List.length_append, List.length_singleton]
    have q : n < ps.length + 1 := nbSet (k := ps.length + 1) (fun j n h => by have := nb j n h; omega) (fun n q => by cases q; omega) j n hj
    exact q
  | moveNo m1 n1 => exact nb
  | move f c1 c2 =>
    exact nbSet (nbSet nb fun n q => by cases q) fun n q => by
      cases q
      exact nb _ _ f.1
theorem Runs.nb {sizes : List Int} {ds : List Deed} {as : List Ans} {is : List (Option Nat)} {ps : List (Int × Int)} {td : Int} (h : Runs sizes ds as is ps td) : ∀ (j n : Nat), is[j]? = some (some n) → n < ps.length := by
  induction h with
  | nil =>
    intro j n hj
    have := (List.mem_replicate.mp (List.mem_of_getElem? hj)).2
    cases this
  | snoc r d ih => exact d.nb ih
theorem Runs.ids {sizes : List Int} {ds : List Deed} {as : List Ans} {is : List (Option Nat)} {ps : List (Int × Int)} {td : Int} (h : Runs sizes ds as is ps td) : ∀ l, Ans.ids l ∈ as → l.length ≤ sizes.length := by
  induction h with
  | nil => exact fun l hl => by cases hl
  | snoc r d ih =>
    intro l hl
    rcases List.mem_append.mp hl with q | q
    · exact ih l q
    · have q := List.mem_singleton.mp q
      cases d with
      | night p1 _ =>
        cases q
        have q1 := p1.length_eq
        have q3 := r.len.2.2
        unfold backOf at q1
        rw [List.length_map] at q1
        rw [← q3, q1]
        exact List.length_filter_le _ _
      | _ => cases q
theorem Runs.nn {sizes : List Int} {ds : List Deed} {as : List Ans} {is : List (Option Nat)} {ps : List (Int × Int)} {td : Int} (h : Runs sizes ds as is ps td) : (∀ d ∈ ds, ∀ m c, d ≠ .move m c) → ∀ a ∈ as, a ≠ .non := by
  induction h with
  | nil => exact fun _ a ha => by cases ha
  | snoc r d ih =>
    intro hm a ha
    rcases List.mem_append.mp ha with q | q
    · exact ih (fun e he => hm e (List.mem_append_left _ he)) a q
    · have q := List.mem_singleton.mp q
      subst q
      have hd := hm _ (List.mem_append_right _ (List.mem_singleton_self _))
      cases d with
      | move f c1 c2 => exact absurd rfl (hd _ _)
      | _ => intro z; cases z
/-! ### data -/
def Deed.data : Deed → PyData
  | .night => .tuple [.str "night"]
  | .fetch n => .tuple [.str "fetch", .int n]
  | .come s n => .tuple [.str "come", .int s, .int n]
  | .move m c => .tuple [.str "move", .int (m : Int), .int (c : Int)]
theorem dpDeed {K : PySem.W.Frag} {H : Hp} {q : Addr} {d : Deed} (h : H q = some (.tup d.vs)) : Dp K H (.ref q) d.data := by
  cases d with
  | night => exact .tup (SqT.of h) (.cons (.str _) .nil)
  | fetch n => exact .tup (SqT.of h) (.cons (.str _) (.cons (.int _) .nil))
  | come s n => exact .tup (SqT.of h) (.cons (.str _) (.cons (.int _) (.cons (.int _) .nil)))
  | move m c => exact .tup (SqT.of h) (.cons (.str _) (.cons (.int _) (.cons (.int _) .nil)))
theorem plDeed (d : Deed) : PlD 1 d.data := by
  cases d with
  | night => exact plTup (plCons (plStr _ (by decide +kernel)) plNil)
  | fetch n => exact plTup (plCons (plStr _ (by decide +kernel)) (plCons (plInt _) plNil))
  | come s n => exact plTup (plCons (plStr _ (by decide +kernel)) (plCons (plInt _) (plCons (plInt _) plNil)))
  | move m c => exact plTup (plCons (plStr _ (by decide +kernel)) (plCons (plInt _) (plCons (plInt _) plNil)))
theorem dpAllDeeds {K : PySem.W.Frag} {H : Hp} : ∀ {qs : List Addr} {ds : List Deed}, DeedL H qs ds → DpAll K H (qs.map V.ref) (ds.map Deed.data)
  | [], [], _ => .nil
  | [], d :: r, h => by have := h.len; simp at this
  | q :: r, [], h => by have := h.len; simp at this
  | q :: r, d :: e, h => .cons (dpDeed (h.at_ 0 q d rfl rfl)) (dpAllDeeds ⟨by have := h.len; simpa using this, fun i a b h1 h2 => h.at_ (i + 1) a b h1 h2⟩)
theorem dpDeeds {K : PySem.W.Frag} {H : Hp} {b : Addr} {qs : List Addr} {ds : List Deed} (hb : SqL K H b (qs.map V.ref)) (h : DeedL H qs ds) : Dp K H (.ref b) (.list (ds.map Deed.data)) := .lst hb (dpAllDeeds h)
theorem plDeeds (ds : List Deed) : PlD 2 (.list (ds.map Deed.data)) := plList fun d hd => by
  obtain ⟨x, _, rfl⟩ := List.mem_map.mp hd
  exact plDeed x
/-- sizes and deeds in a list -/
theorem dpHand {K : PySem.W.Frag} {H : Hp} {l a b : Addr} {zs : List Int} {qs : List Addr} {ds : List Deed} (h : SqL K H l [.ref a, .ref b]) (ha : SqL K H a (zs.map V.int)) (hb : SqL K H b (qs.map V.ref)) (hd : DeedL H qs ds) : Dp K H (.ref l) (.list [.list (zs.map PyData.int), .list (ds.map Deed.data)]) :=
  .lst h (.cons (dpInts ha) (.cons (dpDeeds hb hd) .nil))
theorem plHand (zs : List Int) (ds : List Deed) : PlD 3 (.list [.list (zs.map PyData.int), .list (ds.map Deed.data)]) := plList (plCons ((plInts zs).up (by decide)) (plCons (plDeeds ds) plNil))
/-- the lists among the answers, each with a 9 behind -/
def nines : List Ans → List PyData
  | [] => []
  | .ids l :: r => .list ((l ++ [9]).map PyData.int) :: nines r
  | _ :: r => nines r
def isRef : V → Bool
  | .ref _ => true
  | _ => false
theorem plNines : ∀ as : List Ans, ∀ d ∈ nines as, PlD 1 d
  | [], d, h => by cases h
  | .ids l :: r, d, h => by
    rcases List.mem_cons.mp h with e | e
    · rw [e]; exact plInts _
    · exact plNines r d e
  | .no u :: r, d, h => plNines r d h
  | .num n :: r, d, h => plNines r d h
  | .non :: r, d, h => plNines r d h
theorem nines_append : ∀ as bs : List Ans, nines (as ++ bs) = nines as ++ nines bs
  | [], bs => rfl
  | .ids l :: r, bs => by
    show _ :: nines (r ++ bs) = _ :: (nines r ++ nines bs)
    rw [nines_append r bs]
  | .no u :: r, bs => nines_append r bs
  | .num n :: r, bs => nines_append r bs
  | .non :: r, bs => nines_append r bs
theorem dpAll_append {K : PySem.W.Frag} {H : Hp} : ∀ {xs : List V} {ds : List PyData} {ys : List V} {es : List PyData}, DpAll K H xs ds → DpAll K H ys es → DpAll K H (xs ++ ys) (ds ++ es)
  | [], _, _, _, .nil, h => h
  | _ :: _, _, _, _, .cons a b, h => .cons a (dpAll_append b h)
/-- what the found lists hold while a 9 is put behind each -/
def Put (H : Hp) (i : Nat) (as : List Ans) (us : List V) : Prop := us.length = as.length ∧ ∀ (j : Nat) (a : Ans) (v : V), as[j]? = some a → us[j]? = some v → match a with
  | .no u => v = .str u
  | .num n => v = .int n
  | .non => v = .non
  | .ids l => ∃ q, v = .ref q ∧ H q = some (.lst ((if j < i then l ++ [9] else l).map V.int))
theorem dpPut {K : PySem.W.Frag} {H : Hp} : ∀ {as : List Ans} {us : List V} {i : Nat}, Put H i as us → as.length ≤ i → DpAll K H (us.filter isRef) (nines as)
  | [], [], _, _, _ => .nil
  | [], u :: r, _, h, _ => by have := h.1; simp at this
  | a :: r, [], _, h, _ => by have := h.1; simp at this
  | a :: r, u :: us, i, h, hi => by
    have hi : r.length + 1 ≤ i := hi
    obtain ⟨i', rfl⟩ : ∃ i', i = i' + 1 := ⟨i - 1, by omega⟩
    have ih := dpPut (K := K) (H := H) (as := r) (us := us) (i := i') ⟨by have := h.1; simpa using this, fun j b v h1 h2 => by
      have q := h.2 (j + 1) b v h1 h2
      cases b with
      | ids l =>
        obtain ⟨q, q1, q2⟩ := q
        refine ⟨q, q1, ?_⟩
        rw [q2]
        by_cases c : j < i'
        · rw [if_pos c, if_pos (by omega)]
        · rw [if_neg c, if_neg (by omega)]
      | no u => exact q
      | num n => exact q
      | non => exact q⟩ (by omega)
    have q := h.2 0 a u rfl rfl
    cases a with
    | no s =>
      have q : u = .str s := q
      rw [q]; exact ih
    | num n =>
      have q : u = .int n := q
      rw [q]; exact ih
    | non =>
      have q : u = .non := q
      rw [q]; exact ih
    | ids l =>
      obtain ⟨z, q1, q2⟩ := q
      rw [if_pos (by omega)] at q2
      rw [q1]
      exact .cons (dpInts (SqL.of q2)) ih
/-- lists with a 9 behind, of the lists among the answers -/
def NL (H : Hp) : List Ans → List V → Prop
  | [], cs => cs = []
  | .ids l :: r, cs => ∃ q cs', cs = .ref q :: cs' ∧ H q = some (.lst ((l ++ [9]).map V.int)) ∧ NL H r cs'
  | .no _ :: r, cs => NL H r cs
  | .num _ :: r, cs => NL H r cs
  | .non :: r, cs => NL H r cs
theorem NL.mono {H H' : Hp} (s : Same H H') : ∀ {as : List Ans} {cs : List V}, NL H as cs → NL H' as cs
  | [], _, h => h
  | .ids l :: r, _, ⟨q, cs', h1, h2, h3⟩ => ⟨q, cs', h1, s _ _ h2, NL.mono s h3⟩
  | .no _ :: r, _, h => NL.mono (as := r) s h
  | .num _ :: r, _, h => NL.mono (as := r) s h
  | .non :: r, _, h => NL.mono (as := r) s h
theorem NL.snocIds {H : Hp} {l : List Int} {q : Addr} (hq : H q = some (.lst ((l ++ [9]).map V.int))) : ∀ {as : List Ans} {cs : List V}, NL H as cs → NL H (as ++ [.ids l]) (cs ++ [.ref q])
  | [], cs, h => by
    have h : cs = [] := h
    subst h
    exact ⟨q, [], rfl, hq, rfl⟩
  | .ids m :: r, _, ⟨p, cs', h1, h2, h3⟩ => ⟨p, cs' ++ [.ref q], by rw [h1]; rfl, h2, NL.snocIds hq h3⟩
  | .no _ :: r, _, h => NL.snocIds (as := r) hq h
  | .num _ :: r, _, h => NL.snocIds (as := r) hq h
  | .non :: r, _, h => NL.snocIds (as := r) hq h
theorem NL.snocNo {H : Hp} {u : Str} : ∀ {as : List Ans} {cs : List V}, NL H as cs → NL H (as ++ [.no u]) cs
  | [], _, h => h
  | .ids m :: r, _, ⟨p, cs', h1, h2, h3⟩ => ⟨p, cs', h1, h2, NL.snocNo h3⟩
  | .no _ :: r, _, h => NL.snocNo (as := r) h
  | .num _ :: r, _, h => NL.snocNo (as := r) h
  | .non :: r, _, h => NL.snocNo (as := r) h
theorem NL.snocNum {H : Hp} {n : Int} : ∀ {as : List Ans} {cs : List V}, NL H as cs → NL H (as ++ [.num n]) cs
  | [], _, h => h
  | .ids m :: r, _, ⟨p, cs', h1, h2, h3⟩ => ⟨p, cs', h1, h2, NL.snocNum h3⟩
  | .no _ :: r, _, h => NL.snocNum (as := r) h
  | .num _ :: r, _, h => NL.snocNum (as := r) h
  | .non :: r, _, h => NL.snocNum (as := r) h
theorem NL.dp {K : PySem.W.Frag} {H : Hp} : ∀ {as : List Ans} {cs : List V}, NL H as cs → DpAll K H cs (nines as)
  | [], cs, h => by
    have h : cs = [] := h
    subst h
    exact .nil
  | .ids l :: r, cs, h => by
    obtain ⟨q, cs', h1, h2, h3⟩ := h
    subst h1
    exact .cons (dpInts (SqL.of h2)) (NL.dp h3)
  | .no _ :: r, _, h => NL.dp (as := r) h
  | .num _ :: r, _, h => NL.dp (as := r) h
  | .non :: r, _, h => NL.dp (as := r) h
theorem NL.len {H : Hp} : ∀ {as : List Ans} {cs : List V}, NL H as cs → cs.length ≤ as.length
  | [], cs, h => by
    have h : cs = [] := h
    subst h
    exact Nat.le_refl _
  | .ids l :: r, cs, h => by
    obtain ⟨q, cs', h1, h2, h3⟩ := h
    subst h1
    exact Nat.succ_le_succ (NL.len h3)
  | .no _ :: r, _, h => Nat.le_succ_of_le (NL.len (as := r) h)
  | .num _ :: r, _, h => Nat.le_succ_of_le (NL.len (as := r) h)
  | .non :: r, _, h => Nat.le_succ_of_le (NL.len (as := r) h)
theorem Put.start {H : Hp} {as : List Addr} {anss : List Ans} {us : List V} (h : AnsL H as anss us) : Put H 0 anss us := ⟨h.len, fun j a v h1 h2 => by
  have q := h.at_ j a v h1 h2
  cases a with
  | no u => exact q
  | num n => exact q
  | non => exact q
  | ids l =>
    obtain ⟨r, r1, r2, _⟩ := q
    exact ⟨r, r1, r2⟩⟩
end Pw
namespace Pw
theorem Put.app {H : Hp} {i : Nat} {as : List Ans} {us : List V} (h : Put H i as us) (dis : ∀ (i j : Nat) (q : Addr), us[i]? = some (.ref q) → us[j]? = some (.ref q) → i = j) {q : Addr} {l : List Int} (hu : us[i]? = some (.ref q)) (ha : as[i]? = some (.ids l)) :
    H q = some (.lst (l.map V.int)) ∧ Put (upd H q (.lst (l.map V.int ++ [.int 9]))) (i + 1) as us := by
  obtain ⟨r, r1, r2⟩ := h.2 i _ _ ha hu
  cases r1
  rw [if_neg (Nat.lt_irrefl _)] at r2
  refine ⟨r2, h.1, fun j a v h1 h2 => ?_⟩
  have z := h.2 j a v h1 h2
  cases a with
  | no u => exact z
  | num n => exact z
  | non => exact z
  | ids m =>
    obtain ⟨p, p1, p2⟩ := z
    refine ⟨p, p1, ?_⟩
    subst p1
    by_cases e : j = i
    · subst e
      rw [hu] at h2
      cases h2
      rw [ha] at h1
      cases h1
      rw [upd_same, if_pos (Nat.lt_succ_self _), ← appInt]
    · have ne : p ≠ q := fun x => e (dis j i q (by rw [← x]; exact h2) hu)
      rw [upd_ne ne, p2]
      by_cases c : j < i
      · rw [if_pos c, if_pos (by omega)]
      · rw [if_neg c, if_neg (by omega)]
theorem Put.skip {H : Hp} {i : Nat} {as : List Ans} {us : List V} (h : Put H i as us) {a : Ans} (ha : as[i]? = some a) (hn : ∀ l, a ≠ .ids l) : Put H (i + 1) as us := ⟨h.1, fun j b v h1 h2 => by
  have z := h.2 j b v h1 h2
  cases b with
  | no u => exact z
  | num n => exact z
  | non => exact z
  | ids m =>
    obtain ⟨p, p1, p2⟩ := z
    refine ⟨p, p1, ?_⟩
    have ne : j ≠ i := fun e => by
      subst e
      rw [ha] at h1
      exact hn m (Option.some.inj h1)
    rw [p2]
    by_cases c : j < i
    · rw [if_pos c, if_pos (by omega)]
    · rw [if_neg c, if_neg (by omega)]⟩
theorem Put.mono {H H' : Hp} {i : Nat} {as : List Ans} {us : List V} (h : Put H i as us) (s : Same H H') : Put H' i as us := ⟨h.1, fun j b v h1 h2 => by
  have z := h.2 j b v h1 h2
  cases b with
  | no u => exact z
  | num n => exact z
  | non => exact z
  | ids m =>
    obtain ⟨p, p1, p2⟩ := z
    exact ⟨p, p1, s _ _ p2⟩⟩
end Pw
namespace Pw
def sp_done (K : PySem.W.Frag) : Sp := fun vs H Q _ => ∃ (s : WS), WallAt K H s ∧ ∃ (d : Addr) (deed : Deed), vs = [.ref s.w, .ref d] ∧ H d = some (.tup deed.vs) ∧ s.parcels.length < 1000 ∧ (∀ m c, deed ≠ .move m c) ∧
  ∀ (ans : Ans) (is' : List (Option Nat)) (ps' : List (Int × Int)) (td' : Int) (H' : Hp) (v : V), Does s.sizes s.inside s.parcels s.today deed ans is' ps' td' → Frm s H H' → WallAt K H' ⟨s.w, s.dx, s.l1, s.l2, s.l3, s.sizes, is', ps', td'⟩ → AnsW s H H' ans v → Q v H'
theorem len_done {K : PySem.W.Frag} : ∀ vs H Q E, sp_done K vs H Q E → vs.length = 2 := by
  rintro vs H Q E ⟨_, _, _, _, rfl, _⟩
  rfl
def t_done (K : PySem.W.Frag) (E : XK) : TS :=
  tTryMany K [((.ref (He.ga K "NoSize")), fun a cls d => tRet (tC (.str "NoSize"))), ((.ref (He.ga K "NoNights")), fun a cls d => tRet (tC (.str "NoNights"))), ((.ref (He.ga K "NoBox")), fun a cls d => tRet (tC (.str "NoBox"))), ((.ref (He.ga K "NoParcel")), fun a cls d => tRet (tC (.str "NoParcel")))] (fun W => tSeq (tIfS (tTest (tOp rEq (tOp (rIxT K) (tVar 1) (tC (.int 0))) (tC (.str "come")))) (tRet (tMethS (He.ga K "Wall") "come" (sp_Wall_come K) (WE W) (tVar 0) (tCons (tOp (rIxT K) (tVar 1) (tC (.int 1))) (tCons (tOp (rIxT K) (tVar 1) (tC (.int 2))) tNil)))) (tNext))
    (tSeq (tIfS (tTest (tOp rEq (tOp (rIxT K) (tVar 1) (tC (.int 0))) (tC (.str "fetch")))) (tRet (tMethS (He.ga K "Wall") "fetch" (sp_Wall_fetch K) (WE W) (tVar 0) (tCons (tOp (rIxT K) (tVar 1) (tC (.int 1))) tNil))) (tNext))
    (tRet (tMeth (He.ga K "Wall") "night" (sp_Wall_night K) [] E0 (tVar 0) tNil)))) (wNone)
theorem pure_done {K : PySem.W.Frag} {l : List Str} (X : XS K l) (hl : ((["NoParcel", "NoSize", "NoBox", "NoNights"] : List Str).all fun x => l.contains x) = true) (vs : List V) (H : Hp) (Q : VK) (E : XK) (h : sp_done K vs H Q E) : t_done K E { nx := fun _ H' => Q .non H', rt := Q } (start ["wall", "deed"] vs) H := by
  obtain ⟨s, A, d, deed, rfl, hD, lp, hmv, k⟩ := h
  have hob := A.ob
  have mem : ∀ {z : Str}, z ∈ (["NoParcel", "NoSize", "NoBox", "NoNights"] : List Str) → z ∈ l := fun hz => inAll hl hz
  have mP : ("NoParcel" : Str) ∈ l := mem (by simp)
  have mS : ("NoSize" : Str) ∈ l := mem (by simp)
  have mB : ("NoBox" : Str) ∈ l := mem (by simp)
  have mN : ("NoNights" : Str) ∈ l := mem (by simp)
  have s1 := X.exm (b := true) mS mS (by decide +kernel)
  have n1 := X.exm (b := false) mN mS (by decide +kernel)
  have n2 := X.exm (b := true) mN mN (by decide +kernel)
  have b1 := X.exm (b := false) mB mS (by decide +kernel)
  have b2 := X.exm (b := false) mB mN (by decide +kernel)
  have b3 := X.exm (b := true) mB mB (by decide +kernel)
  have p1 := X.exm (b := false) mP mS (by decide +kernel)
  have p2 := X.exm (b := false) mP mN (by decide +kernel)
  have p3 := X.exm (b := false) mP mB (by decide +kernel)
  have p4 := X.exm (b := true) mP mP (by decide +kernel)
  unfold t_done tTryMany
  cases deed with
  | move m c => exact absurd rfl (hmv m c)
  | night =>
    have hD : H d = some (.tup [.str "night"]) := hD
    walk_at "go"
    intro ids H' p hperm hsort F A' hp0 hp q0 q1 q2 q3
    exact k (.ids ids) _ _ _ _ _ (.night hperm hsort) F A' ⟨p, rfl, hp0, hp, q0, q1, q2, q3⟩
  | fetch n =>
    have hD : H d = some (.tup [.str "fetch", .int n]) := hD
    walk_at "go"
    refine ⟨fun m b em hf H' F A' => ?_, fun nh => ?_⟩
    · subst em
      walk_at "go"
      exact k (.num (b : Int)) _ _ _ _ _ (.fetch hf) F A' rfl
    · have fin := k (.no "NoParcel") _ _ _ H _ (.fetchNo nh) (Frm.refl _ _) A rfl
      refine ⟨false, p1, fun z => (by cases z), fun _ => ⟨false, p2, fun z => (by cases z), fun _ => ⟨false, p3, fun z => (by cases z), fun _ => ⟨true, p4, fun _ a ha => ?_, fun z => (by cases z)⟩⟩⟩⟩
      exact fin
  | come size nights =>
    have hD : H d = some (.tup [.str "come", .int size, .int nights]) := hD
    walk_at "go"
    refine ⟨fun c => ?_, fun c cn => ?_, fun c cn hn H' s' => ?_, fun c cn b H' hb F A' => ?_⟩
    · have fin := k (.no "NoSize") _ _ _ H _ (.comeNo (.inl ⟨rfl, c⟩)) (Frm.refl _ _) A rfl
      exact ⟨true, s1, fun _ a ha => fin, fun z => (by cases z)⟩
    · have fin := k (.no "NoNights") _ _ _ H _ (.comeNo (.inr (.inl ⟨rfl, c, cn⟩))) (Frm.refl _ _) A rfl
      exact ⟨false, n1, fun z => (by cases z), fun _ => ⟨true, n2, fun _ a ha => fin, fun z => (by cases z)⟩⟩
    · have fin := k (.no "NoBox") _ _ _ H' _ (.comeNo (.inr (.inr ⟨rfl, c, cn, hn⟩))) (Frm.same s') (A.mono s') rfl
      exact ⟨false, b1, fun z => (by cases z), fun _ => ⟨false, b2, fun z => (by cases z), fun _ => ⟨true, b3, fun _ a ha => fin, fun z => (by cases z)⟩⟩⟩
    · walk_at "go"
      exact k (.num (s.parcels.length : Int)) _ _ _ _ _ (.come ⟨c, cn, hb⟩) F A' rfl
end Pw
namespace Pw
def sp_Wall_held (K : PySem.W.Frag) : Sp := fun vs H Q _ => ∃ (s : WS), WallAt K H s ∧ vs = [.ref s.w] ∧ RetNew H Q (s.inside.map optV)
theorem len_Wall_held {K : PySem.W.Frag} : ∀ vs H Q E, sp_Wall_held K vs H Q E → vs.length = 1 := by
  rintro vs H Q E ⟨_, _, rfl, _⟩
  rfl
def t_Wall_held (K : PySem.W.Frag) (E : XK) : TS :=
  tRet (tCB (rListOf K) (tCons (tFld K (tVar 0) "inside") tNil))
theorem pure_Wall_held {K : PySem.W.Frag} (T : TW K) (vs : List V) (H : Hp) (Q : VK) (E : XK) (h : sp_Wall_held K vs H Q E) : t_Wall_held K E { nx := fun _ H' => Q .non H', rt := Q } (start ["self"] vs) H := by
  obtain ⟨s, A, rfl, k⟩ := h
  obtain ⟨tcl, tnb, tni, tnp, tnt⟩ := id T
  have hob := A.ob
  have his := A.is
  unfold t_Wall_held
  walk_at "go"
  intro p hp
  exact k _ p (sameNew (Same.refl _) hp) hp upd_same
end Pw
namespace Pw
def sp_replay (K : PySem.W.Frag) : Sp := fun vs H Q E => ∃ (a b : Addr) (sizes : List Int) (qs : List Addr) (ds : List Deed), vs = [.ref a, .ref b] ∧ SqL K H a (sizes.map V.int) ∧ SqL K H b (qs.map V.ref) ∧ DeedL H qs ds ∧ sizes.length ≤ 1000 ∧ ds.length ≤ 100 ∧ (∀ d ∈ ds, ∀ m c, d ≠ .move m c) ∧
  (OkW sizes → ∀ (anss : List Ans) (is : List (Option Nat)) (ps : List (Int × Int)) (td : Int) (us : List V) (p l e : Addr) (H' : Hp), Runs sizes ds anss is ps td → Same H H' → H' p = some (.tup [.ref l, .ref e]) → H' l = some (.lst us) → AnsL H' [e, l] anss us → H' e = some (.lst (is.map optV)) → l ≠ e → H l = none → H e = none →
    (∀ (i : Nat) (q : Addr), us[i]? = some (.ref q) → H q = none) → Q (.ref p) H') ∧
  (¬ OkW sizes → ∀ H', Same H H' → E (.ref (He.ga K "NoWall")) none H')
theorem len_replay {K : PySem.W.Frag} : ∀ vs H Q E, sp_replay K vs H Q E → vs.length = 2 := by
  rintro vs H Q E ⟨_, _, _, _, _, rfl, _⟩
  rfl
def t_replay (K : PySem.W.Frag) (E : XK) : TS :=
  tSeq (tAsg (tMake (He.ga K "Wall") (sp_Wall_init K) [] E (tCons (tVar 0) tNil)) (gName 2))
    (tSeq (tAsg (tLc (iList K (tVar 1)) (gName 4) tYes (tCall (sp_done K) [] E0 (tCons (tVar 2) (tCons (tVar 4) tNil))) [4]) (gName 3))
    (tRet (tTup (tCons (tVar 3) (tCons (tMeth (He.ga K "Wall") "held" (sp_Wall_held K) [] E0 (tVar 2) tNil) tNil)))))
theorem pure_replay {K : PySem.W.Frag} (T : TW K) (vs : List V) (H : Hp) (Q : VK) (E : XK) (h : sp_replay K vs H Q E) : t_replay K E { nx := fun _ H' => Q .non H', rt := Q } (start ["sizes", "deeds", "wall", "answers", "deed"] vs) H := by
  obtain ⟨a, b, sizes, qs, ds, rfl, hA, hB, hds, lA, lds, nm, k, eW⟩ := h
  unfold t_replay
  walk_at "go"
  intro x dx hx hdx hne
  have s0 : Same H (upd (upd H dx (.own x)) x (.ins (He.ga K "Wall") dx [])) := sameNew (sameNew (Same.refl _) hdx) (by rw [upd_ne (Ne.symm hne)]; exact hx)
  refine ⟨x, dx, a, sizes, rfl, upd_same, s0.seq hA, lA, fun ok H1 l1 l2 l3 A1 n1 n2 n3 fr => ?_, fun nok => eW nok _ s0⟩
  have s1 : Same H H1 := fun c o e => fr c o (s0 c o e) (ne_of_none e hx)
  have f1 : H l1 = none := s0.free n1
  have f2 : H l2 = none := s0.free n2
  have f3 : H l3 = none := s0.free n3
  refine ⟨rfl, ?_⟩
  have e3 : H1 l3 = some (.lst []) := let ⟨ts, q, q2, _⟩ := A1.ps; by cases ts with | nil => exact q | cons _ _ => cases q2
  clear s0 fr hne hdx n1 n2 n3
  have hB1 := s1.seq hB
  walk_at "go"
  intro D hD
  have Dx : D ≠ x := Ne.symm (ne_of_none A1.ob hD)
  have D1 : D ≠ l1 := Ne.symm (ne_of_none A1.bx hD)
  have D2 : D ≠ l2 := Ne.symm (ne_of_none A1.is hD)
  have D3 : D ≠ l3 := Ne.symm (ne_of_none e3 hD)
  have fD : H D = none := s1.free hD
  have sD : Same H1 (upd H1 D (.lst [])) := sameNew (Same.refl _) hD
  have lq := hds.len
  refine lc_list (K := K) (a := b) (xs := qs.map V.ref) (fun i H' => Stop (∃ (anss : List Ans) (is : List (Option Nat)) (ps : List (Int × Int)) (td : Int) (us : List V), Runs sizes (ds.take i) anss is ps td ∧ Same H H' ∧ WallAt K H' ⟨x, dx, l1, l2, l3, sizes, is, ps, td⟩ ∧ H' D = some (.lst us) ∧
    AnsL H' [x, l1, l2, l3, D] anss us ∧ (∀ (i : Nat) (q : Addr), us[i]? = some (.ref q) → H q = none))) ⟨[], _, [], 0, [], .nil, s1.trans sD, A1.mono sD, upd_same, .nil, fun i q h => by simp at h⟩ ?_ ?_ ?_
  · rintro i H' _ ⟨_, _, _, _, _, _, s, _⟩
    exact s.seq hB
  · rintro i v H2 hi ⟨anss, is, ps, td, us, R, s2, A2, hD2, L2, f2'⟩
    obtain ⟨q, hq, rfl⟩ := mapGet hi
    have hil := getLt hq
    obtain ⟨d, hd⟩ := getOf (xs := ds) (i := i) (by omega)
    have hdq := s2 _ _ (hds.at_ i q d hq hd)
    have hnm := nm d (List.mem_of_getElem? hd)
    obtain ⟨r1, r2, r3⟩ := R.len
    rw [List.length_take] at r1 r2
    have lp : ps.length < 1000 := by omega
    refine ⟨rfl, ?_⟩
    walk_at "go"
    intro ans is' ps' td' H3 v does F A3 an
    have F : Frm ⟨x, dx, l1, l2, l3, sizes, is, ps, td⟩ H2 H3 := F
    have A3 : WallAt K H3 ⟨x, dx, l1, l2, l3, sizes, is', ps', td'⟩ := A3
    have hD3 := F D _ hD2 Dx D2 D3
    have s3 : Same H H3 := frmSame s2 F hx f2 f3
    have kp : Kp [x, l2, l3] H2 H3 := Kp.ofFrm F
    have anD : AnsD H3 [x, l1, l2, l3, D] ans v := an.toD hD2
    have kD : Kp [D] H3 (upd H3 D (.lst (us ++ [v]))) := fun z o e n => by rw [upd_ne (fun w => n (by simp [w]))]; exact e
    refine ⟨us, hD3, szLt (by rw [L2.len]; omega), anss ++ [ans], is', ps', td', us ++ [v], ?_, sameMut s3 fD, A3.lstUpd hD3 D1 D2 D3, upd_same, ?_, fun j r hj => ?_⟩
    · rw [takeMore hd]
      exact R.snoc does
    · refine AnsL.snoc ((L2.kp kp fun z hz => ?_).kp kD fun z hz => ?_) (anD.kp kD fun z hz => ?_) fun r er j => ?_
      · simp only [List.mem_cons, List.not_mem_nil, or_false] at hz ⊢
        rcases hz with rfl | rfl | rfl <;> simp
      · rw [List.mem_singleton.mp hz]; simp
      · rw [List.mem_singleton.mp hz]; simp
      · subst er
        exact L2.fresh an.fresh j
    · rcases getSnoc hj with y | ⟨_, y⟩
      · exact f2' j r y
      · subst y
        exact s2.free an.fresh
  · rintro H2 ⟨anss, is, ps, td, us, R, s2, A2, hD2, L2, f2'⟩
    rw [List.length_map, lq, List.take_length] at R
    have hob2 := A2.ob
    walk_at "go"
    intro H3 e s3 he0 he
    have he : H3 e = some (.lst (is.map optV)) := he
    have hD3 := s3 _ _ hD2
    have L3 := (L2.add he0).mono s3
    have De : D ≠ e := ne_of_none hD2 he0
    walk_at "go"
    intro p hp
    have s4 : Same H3 (upd H3 p (.tup [.ref D, .ref e])) := sameNew (Same.refl _) hp
    exact k ok anss is ps td us p D e _ R (s2.trans (s3.trans s4)) upd_same (s4 _ _ hD3) ((L3.mono s4).less (by simp)) (s4 _ _ he) De fD (s2.free he0) f2'
end Pw
namespace Pw
def sp_law_refused (K : PySem.W.Frag) : Sp := fun vs H Q _ => ∃ (a b : Addr) (sizes : List Int) (qs : List Addr) (ds : List Deed), vs = [.ref a, .ref b] ∧ SqL K H a (sizes.map V.int) ∧ SqL K H b (qs.map V.ref) ∧ DeedL H qs ds ∧ sizes.length ≤ 1000 ∧ ds.length ≤ 100 ∧ (∀ d ∈ ds, ∀ m c, d ≠ .move m c) ∧
  ¬ OkW sizes ∧ ∀ H', Q (.bl true) H'
theorem len_law_refused {K : PySem.W.Frag} : ∀ vs H Q E, sp_law_refused K vs H Q E → vs.length = 2 := by
  rintro vs H Q E ⟨_, _, _, _, _, rfl, _⟩
  rfl
def t_law_refused (K : PySem.W.Frag) (E : XK) : TS :=
  tSeq (tTryAs K (.ref (He.ga K "NoWall")) 2 (fun W => tDrop (tCallS (sp_replay K) (WE W) (tCons (tVar 0) (tCons (tVar 1) tNil)))) (fun a cls d => tRet (tCB (rIsX K cls d a) (tCons (tVar 2) (tCons (tC (.ref (He.ga K "WallError"))) tNil)))) (wNone))
    (tRet (tC (.bl false)))
theorem pure_law_refused {K : PySem.W.Frag} {l : List Str} (X : XS K l) (hl : ((["NoWall", "WallError"] : List Str).all fun x => l.contains x) = true) (vs : List V) (H : Hp) (Q : VK) (E : XK) (h : sp_law_refused K vs H Q E) : t_law_refused K E { nx := fun _ H' => Q .non H', rt := Q } (start ["sizes", "deeds", "e"] vs) H := by
  obtain ⟨a, b, sizes, qs, ds, rfl, hA, hB, hds, lA, lds, nm, nok, k⟩ := h
  have mW : ("NoWall" : Str) ∈ l := inAll hl (by simp)
  have mE : ("WallError" : Str) ∈ l := inAll hl (by simp)
  have x0 := X.exm (b := true) mW mW (by decide +kernel)
  have xc := X.c mW
  have k1 := X.kit (b := true) mW mE (by decide +kernel)
  unfold t_law_refused tTryAs
  walk_at "go"
  refine ⟨fun ok => absurd ok nok, fun _ H' s' => ?_⟩
  walk_at "go"
  refine ⟨fun _ e he => ?_, fun z => (by cases z)⟩
  walk_at "go"
  exact k _
end Pw
namespace Pw
def sp_law_box_for (K : PySem.W.Frag) : Sp := fun vs H Q _ => ∃ (a h : Addr) (sizes : List Int) (inside : List (Option Nat)) (size : Int), vs = [.ref a, .ref h, .int size] ∧ SqL K H a (sizes.map V.int) ∧ SqL K H h (inside.map optV) ∧ inside.length = sizes.length ∧ sizes.length ≤ 1000 ∧
  ((∀ b ∈ freeL inside, sizes.getD b 0 < size) → ∀ H', Same H H' → Q .non H') ∧ ∀ b, LB sizes (freeL inside) size b → ∀ H', Same H H' → Q (.int (b : Nat)) H'
theorem len_law_box_for {K : PySem.W.Frag} : ∀ vs H Q E, sp_law_box_for K vs H Q E → vs.length = 3 := by
  rintro vs H Q E ⟨_, _, _, _, _, rfl, _⟩
  rfl
def t_law_box_for (K : PySem.W.Frag) (E : XK) : TS :=
  tSeq (tAsg (tCB (rSortPO K) (tCons (tLc (iRng1 (tCons (tCB (rLenSeq K) (tCons (tVar 0) tNil)) tNil)) (gName 4) (tAnd (tTest (tOp rIsNone (tOp (rIxL K) (tVar 1) (tVar 4)) (tC .non))) (tTest (tOp rGe (tOp (rIxL K) (tVar 0) (tVar 4)) (tVar 2)))) (tTup (tCons (tOp (rIxL K) (tVar 0) (tVar 4)) (tCons (tVar 4) tNil))) [4]) tNil)) (gName 3))
    (tSeq (tIfS (tTest (tOp rEq (tCB (rLenSeq K) (tCons (tVar 3) tNil)) (tC (.int 0)))) (tRet (tC .non)) (tNext))
    (tRet (tOp (rIxT K) (tOp (rIxL K) (tVar 3) (tC (.int 0))) (tC (.int 1)))))
theorem pure_law_box_for {K : PySem.W.Frag} (vs : List V) (H : Hp) (Q : VK) (E : XK) (h : sp_law_box_for K vs H Q E) : t_law_box_for K E { nx := fun _ H' => Q .non H', rt := Q } (start ["sizes", "held", "size", "some", "box"] vs) H := by
  obtain ⟨a, h, sizes, inside, size, rfl, hA, hH, hl, l1, kN, kB⟩ := h
  unfold t_law_box_for
  walk_at "go"
  intro D hD
  refine lcPairs (n := (((sizes.map V.int).length : Nat) : Int).toNat) (fun i => (inside.getD i none).isNone && decide (size ≤ sizes.getD i 0)) (fun i => sizes.getD i 0) (fun i => (i : Int)) hD (by simp; omega) (fun _ => rfl) (fun i H' hi s' TT k' => ?_) (fun i H' hi _ s' Qv k' => ?_) (fun H1 s1 hL => ?_)
  · simp only [List.length_map] at hi
    have e : ((0 : Int) + (i : Int)).toNat = i := by omega
    have sA := s'.seq hA
    have sH := s'.seq hH
    walk_at "go"
    refine ⟨atMap none (by omega) (by omega), ?_⟩
    walk_at "go"
    rw [isNone_opt, e]
    have k2 := k' _ (Same.refl _)
    cases q : (inside.getD i none).isNone with
    | true =>
      rw [q, Bool.true_and] at k2
      walk_at "go"
      rw [e]
      exact k2
    | false =>
      rw [q, Bool.false_and] at k2
      exact k2
  · simp only [List.length_map] at hi
    have e : ((0 : Int) + (i : Int)).toNat = i := by omega
    have sA := s'.seq hA
    walk_at "go"
    rw [e]
    intro t ht
    refine k' t _ (sameNew (Same.refl _) ht) ?_
    rw [show ((0 : Int) + (i : Int)) = (i : Int) by omega]
    exact upd_same
  have e : (((sizes.map V.int).length : Nat) : Int).toNat = inside.length := by simp; omega
  rw [e] at hL
  walk_at "go"
  refine sortedPairs hL fun ps o H2 p1 p2 s2 ho hP => ?_
  have s3 := s1.trans s2
  have mem : ∀ z : Int × Int, z ∈ ps ↔ ∃ b ∈ freeL inside, size ≤ sizes.getD b 0 ∧ z = (sizes.getD b 0, (b : Int)) := by
    intro z
    rw [p1.mem_iff, List.mem_map]
    constructor
    · rintro ⟨b, hb, rfl⟩
      obtain ⟨q1, q2⟩ := List.mem_filter.mp hb
      rw [Bool.and_eq_true] at q2
      exact ⟨b, List.mem_filter.mpr ⟨q1, q2.1⟩, of_decide_eq_true q2.2, rfl⟩
    · rintro ⟨b, hb, q, rfl⟩
      obtain ⟨q1, q2⟩ := List.mem_filter.mp hb
      exact ⟨b, List.mem_filter.mpr ⟨q1, by rw [Bool.and_eq_true]; exact ⟨q2, decide_eq_true q⟩⟩, rfl⟩
  obtain ⟨ys, hy, hyl⟩ := hP.len
  cases ps with
  | nil =>
    have hyl : ys.length = 0 := hyl
    walk_at "go"
    refine kN (fun b hb => ?_) _ s3
    apply Classical.byContradiction
    intro c
    have := (mem (sizes.getD b 0, (b : Int))).mpr ⟨b, hb, by omega, rfl⟩
    cases this
  | cons z r =>
    have hyl : ys.length = r.length + 1 := hyl
    obtain ⟨b, hb, q, rfl⟩ := (mem z).mp List.mem_cons_self
    obtain ⟨y1, t1, w1, w2, w3⟩ := hP.at_ (z := 0) (by omega) (by show (0 : Int) < ((r.length + 1 : Nat) : Int); omega)
    have w3 : H2 t1 = some (.tup [.int (sizes.getD b 0), .int (b : Int)]) := w3
    rw [hy] at w1
    cases w1
    walk_at "go"
    refine kB b ⟨hb, q, fun c hc hq => ?_⟩ _ s3
    have m := (mem (sizes.getD c 0, (c : Int))).mpr ⟨c, hc, hq, rfl⟩
    rcases List.mem_cons.mp m with e | e
    · have := (Prod.mk.inj e)
      omega
    · have := (List.pairwise_cons.mp p2).1 _ e
      unfold LexLe at this
      dsimp only at this
      omega
end Pw
namespace Pw
def sp_law_due (K : PySem.W.Frag) : Sp := fun vs H Q _ => ∃ (a t d h p : Addr) (sizes : List Int) (is : List (Option Nat)) (ps : List (Int × Int)) (td : Int) (deed : Deed), vs = [.ref a, .ref t, .ref d] ∧ SqL K H a (sizes.map V.int) ∧
  StAt H t h p is ps td ∧ H d = some (.tup deed.vs) ∧ h ≠ p ∧ t ≠ h ∧ t ≠ p ∧ is.length = sizes.length ∧ sizes.length ≤ 8 ∧ ps.length < 1000 ∧ (∀ (j n : Nat), is[j]? = some (some n) → n < ps.length) ∧ (∀ m c, deed ≠ .move m c) ∧
  ∀ (ans : Ans) (is' : List (Option Nat)) (ps' : List (Int × Int)) (td' : Int) (H' : Hp) (v : V), Does sizes is ps td deed ans is' ps' td' → Kp [t, h, p] H H' → StAt H' t h p is' ps' td' → AnsAt H H' ans v → Q v H'
theorem len_law_due {K : PySem.W.Frag} : ∀ vs H Q E, sp_law_due K vs H Q E → vs.length = 3 := by
  rintro vs H Q E ⟨_, _, _, _, _, _, _, _, _, _, rfl, _⟩
  rfl
def t_law_due (K : PySem.W.Frag) (E : XK) : TS :=
  tSeq (tAsg (tOp (rIxL K) (tVar 1) (tC (.int 0))) (gName 3))
    (tSeq (tAsg (tOp (rIxL K) (tVar 1) (tC (.int 1))) (gName 4))
    (tSeq (tIfS (tTest (tOp rEq (tOp (rIxT K) (tVar 2) (tC (.int 0))) (tC (.str "night")))) (tSeq (tAsg (tOp rAddI (tOp (rIxL K) (tVar 1) (tC (.int 2))) (tC (.int 1))) (gSub (tVar 1) (tC (.int 2)) rSetL))
    (tSeq (tAsg (tLc (iList K (tVar 3)) (gName 7) (tAnd (tTest (tOp rNotNone (tVar 7) (tC .non))) (tTest (tOp rLe (tOp (rIxT K) (tOp (rIxL K) (tVar 4) (tVar 7)) (tC (.int 1))) (tOp (rIxL K) (tVar 1) (tC (.int 2)))))) (tVar 7) [7]) (gName 5))
    (tSeq (tForP (iRng1 (tCons (tCB (rLenSeq K) (tCons (tVar 3) tNil)) tNil)) (gName 6) (tIfS (tTest (tOp (rInY K) (tOp (rIxL K) (tVar 3) (tVar 6)) (tVar 5))) (tAsg (tC .non) (gSub (tVar 3) (tVar 6) rSetL)) (tNext)))
    (tRet (tCB (rSortedI K) (tCons (tVar 5) tNil)))))) (tNext))
    (tSeq (tIfS (tTest (tOp rEq (tOp (rIxT K) (tVar 2) (tC (.int 0))) (tC (.str "fetch")))) (tSeq (tIfS (tTest (tOp (rInN K) (tOp (rIxT K) (tVar 2) (tC (.int 1))) (tVar 3))) (tRet (tC (.str "NoParcel"))) (tNext))
    (tSeq (tAsg (tBM K "list" (rIndex K) (tVar 3) (tCons (tOp (rIxT K) (tVar 2) (tC (.int 1))) tNil)) (gName 6))
    (tSeq (tAsg (tC .non) (gSub (tVar 3) (tVar 6) rSetL))
    (tRet (tVar 6))))) (tNext))
    (tSeq (tIfS (tOr (tTest (tOp rLt (tOp (rIxT K) (tVar 2) (tC (.int 1))) (tC (.int 1)))) (tTest (tOp rGt (tOp (rIxT K) (tVar 2) (tC (.int 1))) (tC (.int 9))))) (tRet (tC (.str "NoSize"))) (tNext))
    (tSeq (tIfS (tOr (tTest (tOp rLt (tOp (rIxT K) (tVar 2) (tC (.int 2))) (tC (.int 1)))) (tTest (tOp rGt (tOp (rIxT K) (tVar 2) (tC (.int 2))) (tC (.int 9))))) (tRet (tC (.str "NoNights"))) (tNext))
    (tSeq (tAsg (tCall (sp_law_box_for K) [] E0 (tCons (tVar 0) (tCons (tVar 3) (tCons (tOp (rIxT K) (tVar 2) (tC (.int 1))) tNil)))) (gName 6))
    (tSeq (tIfS (tTest (tOp rIsNone (tVar 6) (tC .non))) (tRet (tC (.str "NoBox"))) (tNext))
    (tSeq (tAsg (tCB (rLenSeq K) (tCons (tVar 4) tNil)) (gSub (tVar 3) (tVar 6) rSetL))
    (tSeq (tDrop (tBM K "list" rAppend (tVar 4) (tCons (tTup (tCons (tOp (rIxT K) (tVar 2) (tC (.int 1))) (tCons (tOp rAddI (tOp (rIxL K) (tVar 1) (tC (.int 2))) (tOp (rIxT K) (tVar 2) (tC (.int 2)))) tNil))) tNil)))
    (tRet (tOp (rIxL K) (tVar 3) (tVar 6))))))))))))
theorem pure_law_due {K : PySem.W.Frag} (vs : List V) (H : Hp) (Q : VK) (E : XK) (h : sp_law_due K vs H Q E) : t_law_due K E { nx := fun _ H' => Q .non H', rt := Q } (start ["sizes", "state", "deed", "held", "parcels", "back", "box", "p"] vs) H := by
  obtain ⟨a, t, d, h, p, sizes, is, ps, td, deed, rfl, hA, hSt, hD, nhp, nth, ntp, hl, l8, lp, nb, hk, k⟩ := h
  obtain ⟨hT, hH, hP⟩ := hSt
  have hHs := SqL.of (K := K) hH
  have hfl := flatOpt is
  cases deed with
  | move m c => exact absurd rfl (hk m c)
  | come size nights =>
    have hD : H d = some (.tup [.str "come", .int size, .int nights]) := hD
    have kR : ∀ u, Rf sizes is size nights u → ∀ H', Same H H' → Q (.str u) H' := fun u hu H' s => k (.no u) is ps td H' _ (.comeNo hu) (Kp.ofSame s) ⟨s _ _ hT, s _ _ hH, hP.mono s⟩ rfl
    unfold t_law_due
    walk_at "go"
    refine ifD (fun c => kR _ (.inl ⟨rfl, by omega⟩) _ (Same.refl _)) (fun c => ?_)
    walk_at "go"
    refine ifD (fun c2 => kR _ (.inl ⟨rfl, by omega⟩) _ (Same.refl _)) (fun c2 => ?_)
    walk_at "go"
    refine ifD (fun c3 => kR _ (.inr (.inl ⟨rfl, by omega, by omega⟩)) _ (Same.refl _)) (fun c3 => ?_)
    walk_at "go"
    refine ifD (fun c4 => kR _ (.inr (.inl ⟨rfl, by omega, by omega⟩)) _ (Same.refl _)) (fun c4 => ?_)
    have cs : 1 ≤ size ∧ size ≤ 9 := by omega
    have cn : 1 ≤ nights ∧ nights ≤ 9 := by omega
    walk_at "go"
    refine ⟨fun hn H1 s1 => ?_, fun b hb H1 s1 => ?_⟩
    · walk_at "go"
      exact kR _ (.inr (.inr ⟨rfl, cs, cn, hn⟩)) _ s1
    have hbl := (mem_free.mp hb.1).1
    have hT1 := s1 _ _ hT
    have hD1 := s1 _ _ hD
    have hH1 := s1 _ _ hH
    have hP1 := hP.mono s1
    obtain ⟨ys, hy, hyl⟩ := hP1.len
    walk_at "go"
    refine ⟨ixN_of (by omega) (by rw [List.length_map]; omega), ?_⟩
    have eb : ((b : Nat) : Int).toNat = b := by omega
    dsimp only
    rw [hyl, eb, setOpt]
    have hH2 : upd H1 h (.lst ((is.set b (some ps.length)).map optV)) h = some (.lst ((is.set b (some ps.length)).map optV)) := upd_same
    have hT2 : upd H1 h (.lst ((is.set b (some ps.length)).map optV)) t = some (.lst [.ref h, .ref p, .int td]) := by rw [upd_ne nth]; exact hT1
    have hD2 : upd H1 h (.lst ((is.set b (some ps.length)).map optV)) d = some (.tup [.str "come", .int size, .int nights]) := by rw [upd_ne (ne_of hD1 hH1 (by intro q; cases q))]; exact hD1
    have k2 : Kp [t, h, p] H (upd H1 h (.lst ((is.set b (some ps.length)).map optV))) := fun x o e n => by rw [upd_ne (fun q => n (by simp [q]))]; exact s1 _ _ e
    have k1 : Kp [h] H1 (upd H1 h (.lst ((is.set b (some ps.length)).map optV))) := fun x o e n => by rw [upd_ne (fun q => n (by simp [q]))]; exact e
    have hP2 : PairL (upd H1 h (.lst ((is.set b (some ps.length)).map optV))) p ps := hP1.upd_tup k1 (consNot (Ne.symm nhp) nilNot) fun x u v e => consNot (ne_of e hH1 (by intro q; cases q)) nilNot
    generalize upd H1 h (.lst ((is.set b (some ps.length)).map optV)) = H2 at hH2 hT2 hD2 hP2 k2 k1
    obtain ⟨ys2, hy2, hyl2⟩ := hP2.len
    walk_at "go"
    intro z hz
    have sz : Same H2 (upd H2 z (.tup [.int size, .int (td + nights)])) := sameNew (Same.refl _) hz
    have hT3 := sz _ _ hT2
    have hH3 := sz _ _ hH2
    have hP3 := hP2.mono sz
    have ez : upd H2 z (.tup [.int size, .int (td + nights)]) z = some (.tup [.int size, .int (td + nights)]) := upd_same
    have k3 := k2.trans (Kp.ofSame sz)
    generalize upd H2 z (.tup [.int size, .int (td + nights)]) = H3 at sz hT3 hH3 hP3 ez k3
    obtain ⟨ys, hy, hyl, hP4⟩ := hP3.snoc ez
    walk_at "go"
    have hH4 : upd H3 p (.lst (ys ++ [V.ref z])) h = some (.lst ((is.set b (some ps.length)).map optV)) := by rw [upd_ne nhp]; exact hH3
    have hT4 : upd H3 p (.lst (ys ++ [V.ref z])) t = some (.lst [.ref h, .ref p, .int td]) := by rw [upd_ne ntp]; exact hT3
    walk_at "go"
    refine ⟨at_of (j := b) rfl (getMap (List.getElem?_set_self hbl)), ?_⟩
    exact k (.num (ps.length : Int)) _ _ _ _ _ (.come ⟨cs, cn, hb⟩) (fun x o e n => by rw [upd_ne (fun q => n (by simp [q]))]; exact k3 x o e n) ⟨hT4, hH4, hP4⟩ rfl
  | fetch n =>
    have hD : H d = some (.tup [.str "fetch", .int n]) := hD
    unfold t_law_due
    walk_at "go"
    refine ifNB (fun c => ?_) (fun c => ?_)
    · exact k (.no "NoParcel") _ _ _ _ _ (.fetchNo (inOptF c)) (Kp.ofSame (Same.refl _)) ⟨hT, hH, hP⟩ rfl
    obtain ⟨m, rfl, hm⟩ := inOpt.mp c
    obtain ⟨b, hb⟩ := fst_of hm
    obtain ⟨i1, i2, i3⟩ := hb.idx
    have hbl := hb.lt
    walk_at "go"
    refine ⟨ixN_of (by omega) (by rw [List.length_map]; omega), ?_⟩
    have eb : ((b : Nat) : Int).toNat = b := by omega
    dsimp only
    rw [eb, setNon]
    walk_at "go"
    have k1 : Kp [t, h, p] H (upd H h (.lst ((is.set b none).map optV))) := fun x o e n => by rw [upd_ne (fun q => n (by simp [q]))]; exact e
    have k0 : Kp [h] H (upd H h (.lst ((is.set b none).map optV))) := fun x o e n => by rw [upd_ne (fun q => n (by simp [q]))]; exact e
    exact k (.num (b : Int)) _ _ _ _ _ (.fetch hb) k1 ⟨by rw [upd_ne nth]; exact hT, upd_same, hP.upd_tup k0 (consNot (Ne.symm nhp) nilNot) fun x u v e => consNot (ne_of e hH (by intro q; cases q)) nilNot⟩ rfl
  | night =>
    have hD : H d = some (.tup [.str "night"]) := hD
    unfold t_law_due
    walk_at "go"
    dsimp only
    have hT1 : upd H t (.lst ([.ref h, .ref p, .int td].set (Int.toNat 2) (.int (td + 1)))) t = some (.lst [.ref h, .ref p, .int (td + 1)]) := upd_same
    have hH1 : upd H t (.lst ([.ref h, .ref p, .int td].set (Int.toNat 2) (.int (td + 1)))) h = some (.lst (is.map optV)) := by rw [upd_ne (Ne.symm nth)]; exact hH
    have k0 : Kp [t] H (upd H t (.lst ([.ref h, .ref p, .int td].set (Int.toNat 2) (.int (td + 1))))) := fun x o e n => by rw [upd_ne (fun q => n (by simp [q]))]; exact e
    have k1 : Kp [t, h, p] H (upd H t (.lst ([.ref h, .ref p, .int td].set (Int.toNat 2) (.int (td + 1))))) := k0.more (by simp)
    have hP1 : PairL (upd H t (.lst ([.ref h, .ref p, .int td].set (Int.toNat 2) (.int (td + 1))))) p ps := hP.upd_tup k0 (consNot (Ne.symm ntp) nilNot) fun x u v e => consNot (ne_of e hT (by intro q; cases q)) nilNot
    have fr1 : ∀ z, upd H t (.lst ([.ref h, .ref p, .int td].set (Int.toNat 2) (.int (td + 1)))) z = none → H z = none := fun z q => updFree q
    generalize upd H t (.lst ([.ref h, .ref p, .int td].set (Int.toNat 2) (.int (td + 1)))) = H1 at hT1 hH1 k0 k1 hP1 fr1
    have hH1s := SqL.of (K := K) hH1
    walk_at "go"
    intro y hy
    refine lcMap (inj := optV) (ns := is) (dueB ps (td + 1)) (fun x => V.int ((x.getD 0 : Nat) : Int)) hy hH1s (by omega) (fun _ => rfl) (fun j x H' hj s' TT k' => ?_) (fun j x H' hj hd' s' Qv k' => ?_) (fun H2 s2 hy2 => ?_)
    · cases x with
      | none =>
        walk_at "go"
        exact k' _ (Same.refl _)
      | some m =>
        have hm := nb j m hj
        obtain ⟨zs, z, w1, w2, w3⟩ := (hP1.mono s').at_ (z := (m : Int)) (by omega) (by omega)
        rw [Int.toNat_natCast] at w3
        have hT' := s' _ _ hT1
        walk_at "go"
        exact k' _ (Same.refl _)
    · cases x with
      | none => cases hd'
      | some m =>
        walk_at "go"
        exact k' _ (Same.refl _)
    have hy2 : H2 y = some (.lst ((backOf ps (td + 1) is).map V.int)) := by rw [hy2]; unfold backOf; rw [List.map_map]; rfl
    have yt : y ≠ t := Ne.symm (ne_of_none hT1 hy)
    have yh : y ≠ h := Ne.symm (ne_of_none hH1 hy)
    have hT2 := s2 _ _ hT1
    have hH2 := s2 _ _ hH1
    have hP2 := hP1.mono s2
    have k2 := k1.trans (Kp.ofSame s2)
    have hfb := flatI (backOf ps (td + 1) is)
    walk_at "go"
    refine forRange (n := (((is.map optV).length : Nat) : Int).toNat) (fun i σ H' => Stop (∃ v6 : Option V, σ = [some (.ref a), some (.ref t), some (.ref d), some (.ref h), some (.ref p), some (.ref y), v6, none] ∧ Kp [t, h, p] H H' ∧ H' t = some (.lst [.ref h, .ref p, .int (td + 1)]) ∧
      H' h = some (.lst (((is.take i).map (nightF ps (td + 1)) ++ is.drop i).map optV)) ∧ PairL H' p ps ∧ H' y = some (.lst ((backOf ps (td + 1) is).map V.int)))) ⟨none, rfl, k2, hT2, hH2, hP2, hy2⟩ ?_ ?_
    · clear hT2 hH2 hP2 k2 hy2
      rintro i σ H3 hi ⟨v6, rfl, k3, hT3, hH3, hP3, hy3⟩
      simp only [List.length_map] at hi
      obtain ⟨x, hx⟩ := getOf (xs := is) (i := i) (by omega)
      have e0 : ((0 : Int) + (i : Int)) = (i : Int) := by omega
      have hat : atI (((is.take i).map (nightF ps (td + 1)) ++ is.drop i).map optV) ((0 : Int) + (i : Int)) = some (optV x) := at_of (j := i) e0 (getMap (nightAt.trans hx))
      have hst := nightStep (f := nightF ps (td + 1)) hx
      have hlen : ((is.take i).map (nightF ps (td + 1)) ++ is.drop i).length = is.length := by
        rw [List.length_append, List.length_map, List.length_take, List.length_drop]
        have := getLt hx
        omega
      cases x with
      | none =>
        have hat : atI (((is.take i).map (nightF ps (td + 1)) ++ is.drop i).map optV) ((0 : Int) + (i : Int)) = some .non := hat
        walk_at "go"
        refine ifNo inIntsNon ?_
        refine ⟨_, rfl, k3, hT3, ?_, hP3, hy3⟩
        rw [← hst, setSame (x := nightF ps (td + 1) none) (nightAt.trans hx)]; exact hH3
      | some m =>
        have hat : atI (((is.take i).map (nightF ps (td + 1)) ++ is.drop i).map optV) ((0 : Int) + (i : Int)) = some (.int (m : Int)) := hat
        have hmm : some m ∈ is := List.mem_of_getElem? hx
        walk_at "go"
        refine ifB (fun c => ?_) (fun c => ?_)
        · have hd := (mem_back hmm).mp (inInts.mp c)
          walk_at "go"
          refine ⟨ixN_of (by omega) (by rw [List.length_map]; omega), ?_⟩
          have ei : ((0 : Int) + (i : Int)).toNat = i := by omega
          have hn : nightF ps (td + 1) (some m) = none := by unfold nightF; rw [if_pos hd]
          rw [hn] at hst
          dsimp only
          rw [ei, setNon, hst]
          have kk : Kp [h] H3 (upd H3 h (.lst (((is.take (i + 1)).map (nightF ps (td + 1)) ++ is.drop (i + 1)).map optV))) := fun x o e n => by rw [upd_ne (fun q => n (by simp [q]))]; exact e
          refine ⟨_, rfl, k3.trans (kk.more (by simp)), by rw [upd_ne nth]; exact hT3, upd_same, hP3.upd_tup kk (consNot (Ne.symm nhp) nilNot) fun x u v e => consNot (ne_of e hH3 (by intro q; cases q)) nilNot, by rw [upd_ne yh]; exact hy3⟩
        · have hd : ¬ dueB ps (td + 1) (some m) = true := fun q => by
            rw [inInts.mpr ((mem_back hmm).mpr q)] at c; cases c
          have hn : nightF ps (td + 1) (some m) = some m := by unfold nightF; rw [if_neg hd]
          refine ⟨_, rfl, k3, hT3, ?_, hP3, hy3⟩
          rw [← hst, hn, setSame (nightAt.trans hx)]; exact hH3
    · clear hT2 hH2 hP2 k2 hy2
      rintro σ H3 ⟨v6, rfl, k3, hT3, hH3, hP3, hy3⟩
      have e : (((is.map optV).length : Nat) : Int).toNat = is.length := by simp
      rw [e, List.take_length, List.drop_length, List.append_nil] at hH3
      walk_at "go"
      intro ids q hperm hsort hq
      have s4 : Same H3 (upd H3 q (.lst (ids.map V.int))) := sameNew (Same.refl _) hq
      have hq0 : H q = none := by
        cases hh : H q with
        | none => rfl
        | some o =>
          have n : q ∉ [t, h, p] := by
            obtain ⟨zs, z1, _⟩ := hP3.len
            simp [Ne.symm (ne_of_none hT3 hq), Ne.symm (ne_of_none hH3 hq), Ne.symm (ne_of_none z1 hq)]
          rw [k3 q o hh n] at hq; cases hq
      exact k (.ids ids) _ _ _ _ _ (.night hperm hsort) (k3.trans (Kp.ofSame s4)) ⟨s4 _ _ hT3, s4 _ _ hH3, hP3.mono s4⟩ ⟨q, rfl, hq0, upd_same⟩
end Pw
namespace Pw
def sp_law_whole (K : PySem.W.Frag) : Sp := fun vs H Q _ => ∃ (n : Int), vs = [.int n] ∧ Q (.bl true) H
theorem len_law_whole {K : PySem.W.Frag} : ∀ vs H Q E, sp_law_whole K vs H Q E → vs.length = 1 := by
  rintro vs H Q E ⟨_, rfl, _⟩
  rfl
def t_law_whole (K : PySem.W.Frag) (E : XK) : TS :=
  tRet (tAndV (tCB (rIsi K) (tCons (tVar 0) (tCons (tC (.ty "int")) tNil))) (tNotV (tCB (rIsi K) (tCons (tVar 0) (tCons (tC (.ty "bool")) tNil)))))
theorem pure_law_whole {K : PySem.W.Frag} (vs : List V) (H : Hp) (Q : VK) (E : XK) (h : sp_law_whole K vs H Q E) : t_law_whole K E { nx := fun _ H' => Q .non H', rt := Q } (start ["found"] vs) H := by
  obtain ⟨n, rfl, k⟩ := h
  unfold t_law_whole
  walk_at "go"
  exact k
end Pw
namespace Pw
def sp_law_row (K : PySem.W.Frag) : Sp := fun vs H Q _ => ∃ (f d : Addr) (ns : List Int), vs = [.ref f, .ref d] ∧ H f = some (.lst (ns.map V.int)) ∧ SqL K H d (ns.map V.int) ∧ ns.length ≤ 1000 ∧ Q (.bl true) H
theorem len_law_row {K : PySem.W.Frag} : ∀ vs H Q E, sp_law_row K vs H Q E → vs.length = 2 := by
  rintro vs H Q E ⟨_, _, _, rfl, _⟩
  rfl
def t_law_row (K : PySem.W.Frag) (E : XK) : TS :=
  tSeq (tIfS (tOr (tNot (tB (tCB (rIsi K) (tCons (tVar 0) (tCons (tC (.ty "list")) tNil))))) (tTest (tOp rNe (tCB (rLenSeq K) (tCons (tVar 0) tNil)) (tCB (rLenSeq K) (tCons (tVar 1) tNil))))) (tRet (tC (.bl false))) (tNext))
    (tSeq (tForP (iRng1 (tCons (tCB (rLenSeq K) (tCons (tVar 1) tNil)) tNil)) (gName 2) (tIfS (tOr (tNot (tB (tCall (sp_law_whole K) [] E0 (tCons (tOp (rIxL K) (tVar 0) (tVar 2)) tNil)))) (tTest (tOp rNe (tOp (rIxL K) (tVar 0) (tVar 2)) (tOp (rIxL K) (tVar 1) (tVar 2))))) (tRet (tC (.bl false))) (tNext)))
    (tRet (tC (.bl true))))
theorem pure_law_row {K : PySem.W.Frag} (vs : List V) (H : Hp) (Q : VK) (E : XK) (h : sp_law_row K vs H Q E) : t_law_row K E { nx := fun _ H' => Q .non H', rt := Q } (start ["found", "due", "k"] vs) H := by
  obtain ⟨f, d, ns, rfl, hF, hD, hl, k⟩ := h
  unfold t_law_row
  walk_at "go"
  refine forRange (n := (((ns.map V.int).length : Nat) : Int).toNat) (fun i σ H' => Stop (∃ v : Option V, σ = [some (.ref f), some (.ref d), v] ∧ H' = H)) ⟨none, rfl, rfl⟩ ?_ ?_
  · rintro i σ H' hi ⟨v, rfl, rfl⟩
    have hi : i < ns.length := by simpa using hi
    walk_at "go"
    exact ⟨_, rfl, rfl⟩
  · rintro σ H' ⟨v, rfl, rfl⟩
    walk_at "go"
    exact k
end Pw
namespace Pw
def sp_law_alike (K : PySem.W.Frag) : Sp := fun vs H Q _ => ∃ (f d : Addr) (anss : List Ans) (us ws : List V), vs = [.ref f, .ref d] ∧ H f = some (.lst us) ∧ H d = some (.lst ws) ∧ AnsL H [] anss us ∧ AnsL H [] anss ws ∧ anss.length ≤ 1000 ∧
  (∀ a ∈ anss, a ≠ .non) ∧ (∀ l, Ans.ids l ∈ anss → l.length ≤ 1000) ∧ Q (.bl true) H
theorem len_law_alike {K : PySem.W.Frag} : ∀ vs H Q E, sp_law_alike K vs H Q E → vs.length = 2 := by
  rintro vs H Q E ⟨_, _, _, _, _, rfl, _⟩
  rfl
def t_law_alike (K : PySem.W.Frag) (E : XK) : TS :=
  tSeq (tIfS (tOr (tNot (tB (tCB (rIsi K) (tCons (tVar 0) (tCons (tC (.ty "list")) tNil))))) (tTest (tOp rNe (tCB (rLenSeq K) (tCons (tVar 0) tNil)) (tCB (rLenSeq K) (tCons (tVar 1) tNil))))) (tRet (tC (.bl false))) (tNext))
    (tSeq (tForP (iRng1 (tCons (tCB (rLenSeq K) (tCons (tVar 1) tNil)) tNil)) (gName 2) (tIfS (tB (tCB (rIsi K) (tCons (tOp (rIxL K) (tVar 1) (tVar 2)) (tCons (tC (.ty "list")) tNil)))) (tIfS (tNot (tB (tCall (sp_law_row K) [] E0 (tCons (tOp (rIxL K) (tVar 0) (tVar 2)) (tCons (tOp (rIxL K) (tVar 1) (tVar 2)) tNil))))) (tRet (tC (.bl false))) (tNext)) (tIfS (tB (tCB (rIsi K) (tCons (tOp (rIxL K) (tVar 1) (tVar 2)) (tCons (tC (.ty "str")) tNil)))) (tIfS (tOr (tNot (tB (tCB (rIsi K) (tCons (tOp (rIxL K) (tVar 0) (tVar 2)) (tCons (tC (.ty "str")) tNil))))) (tTest (tOp rNe (tOp (rIxL K) (tVar 0) (tVar 2)) (tOp (rIxL K) (tVar 1) (tVar 2))))) (tRet (tC (.bl false))) (tNext)) (tIfS (tOr (tNot (tB (tCall (sp_law_whole K) [] E0 (tCons (tOp (rIxL K) (tVar 0) (tVar 2)) tNil)))) (tTest (tOp rNe (tOp (rIxL K) (tVar 0) (tVar 2)) (tOp (rIxL K) (tVar 1) (tVar 2))))) (tRet (tC (.bl false))) (tNext)))))
    (tRet (tC (.bl true))))
theorem pure_law_alike {K : PySem.W.Frag} (vs : List V) (H : Hp) (Q : VK) (E : XK) (h : sp_law_alike K vs H Q E) : t_law_alike K E { nx := fun _ H' => Q .non H', rt := Q } (start ["found", "due", "k"] vs) H := by
  obtain ⟨f, d, anss, us, ws, rfl, hF, hD, Lu, Lw, la, nn, li, k⟩ := h
  have lu := Lu.len
  have lw := Lw.len
  unfold t_law_alike
  walk_at "go"
  refine forRange (n := ((ws.length : Nat) : Int).toNat) (fun i σ H' => Stop (∃ v : Option V, σ = [some (.ref f), some (.ref d), v] ∧ H' = H)) ⟨none, rfl, rfl⟩ ?_ ?_
  · rintro i σ H' hi ⟨v, rfl, rfl⟩
    have hi : i < anss.length := by omega
    obtain ⟨a, ha⟩ := getOf (xs := anss) (i := i) hi
    obtain ⟨u, hu⟩ := getOf (xs := us) (i := i) (by omega)
    obtain ⟨w, hw⟩ := getOf (xs := ws) (i := i) (by omega)
    have e0 : ((0 : Int) + (i : Int)) = (i : Int) := by omega
    have au := Lu.at_ i a u ha hu
    have aw := Lw.at_ i a w ha hw
    have hau : atI us ((0 : Int) + (i : Int)) = some u := at_of (j := i) e0 hu
    have haw : atI ws ((0 : Int) + (i : Int)) = some w := at_of (j := i) e0 hw
    cases a with
    | no s =>
      obtain rfl : u = .str s := au
      obtain rfl : w = .str s := aw
      walk_at "go"
      exact ⟨_, rfl, rfl⟩
    | num n =>
      obtain rfl : u = .int n := au
      obtain rfl : w = .int n := aw
      walk_at "go"
      exact ⟨_, rfl, rfl⟩
    | non => exact absurd rfl (nn _ (List.mem_of_getElem? ha))
    | ids l =>
      obtain ⟨q, rfl, hq, _⟩ := au
      obtain ⟨r, rfl, hr, _⟩ := aw
      have ll := li l (List.mem_of_getElem? ha)
      have hrS := SqL.of (K := K) hr
      walk_at "go"
      exact ⟨_, rfl, rfl⟩
  · rintro σ H' ⟨v, rfl, rfl⟩
    walk_at "go"
    exact k
end Pw
namespace Pw
def sp_law_held (K : PySem.W.Frag) : Sp := fun vs H Q _ => ∃ (f d : Addr) (hs : List (Option Nat)), vs = [.ref f, .ref d] ∧ H f = some (.lst (hs.map optV)) ∧ SqL K H d (hs.map optV) ∧ hs.length ≤ 1000 ∧ Q (.bl true) H
theorem len_law_held {K : PySem.W.Frag} : ∀ vs H Q E, sp_law_held K vs H Q E → vs.length = 2 := by
  rintro vs H Q E ⟨_, _, _, rfl, _⟩
  rfl
def t_law_held (K : PySem.W.Frag) (E : XK) : TS :=
  tSeq (tIfS (tOr (tNot (tB (tCB (rIsi K) (tCons (tVar 0) (tCons (tC (.ty "list")) tNil))))) (tTest (tOp rNe (tCB (rLenSeq K) (tCons (tVar 0) tNil)) (tCB (rLenSeq K) (tCons (tVar 1) tNil))))) (tRet (tC (.bl false))) (tNext))
    (tSeq (tForP (iRng1 (tCons (tCB (rLenSeq K) (tCons (tVar 1) tNil)) tNil)) (gName 2) (tIfS (tTest (tOp rIsNone (tOp (rIxL K) (tVar 1) (tVar 2)) (tC .non))) (tIfS (tTest (tOp rNotNone (tOp (rIxL K) (tVar 0) (tVar 2)) (tC .non))) (tRet (tC (.bl false))) (tNext)) (tIfS (tOr (tNot (tB (tCall (sp_law_whole K) [] E0 (tCons (tOp (rIxL K) (tVar 0) (tVar 2)) tNil)))) (tTest (tOp rNe (tOp (rIxL K) (tVar 0) (tVar 2)) (tOp (rIxL K) (tVar 1) (tVar 2))))) (tRet (tC (.bl false))) (tNext))))
    (tRet (tC (.bl true))))
theorem pure_law_held {K : PySem.W.Frag} (vs : List V) (H : Hp) (Q : VK) (E : XK) (h : sp_law_held K vs H Q E) : t_law_held K E { nx := fun _ H' => Q .non H', rt := Q } (start ["found", "due", "k"] vs) H := by
  obtain ⟨f, d, hs, rfl, hF, hD, hl, k⟩ := h
  unfold t_law_held
  walk_at "go"
  refine forRange (n := (((hs.map optV).length : Nat) : Int).toNat) (fun i σ H' => Stop (∃ v : Option V, σ = [some (.ref f), some (.ref d), v] ∧ H' = H)) ⟨none, rfl, rfl⟩ ?_ ?_
  · rintro i σ H' hi ⟨v, rfl, rfl⟩
    have hi : i < hs.length := by simpa using hi
    have at_ : atI (hs.map optV) ((0 : Int) + i) = some (optV (hs.getD ((0 : Int) + i).toNat none)) := atMap none (by omega) (by omega)
    generalize hs.getD ((0 : Int) + i).toNat none = x at at_
    cases x with
    | none =>
      have at_ : atI (hs.map optV) ((0 : Int) + i) = some .non := at_
      walk_at "go"
      exact ⟨_, rfl, rfl⟩
    | some n =>
      have at_ : atI (hs.map optV) ((0 : Int) + i) = some (.int n) := at_
      walk_at "go"
      exact ⟨_, rfl, rfl⟩
  · rintro σ H' ⟨v, rfl, rfl⟩
    walk_at "go"
    exact k
end Pw
namespace Pw
def sp_law_k12 (K : PySem.W.Frag) : Sp := fun vs H Q _ => ∃ (a : Addr) (ns : List Int), vs = [.ref a] ∧ SqL K H a (ns.map V.int) ∧ ns.length ≤ 63 ∧ ∀ H', Q (.bl true) H'
theorem len_law_k12 {K : PySem.W.Frag} : ∀ vs H Q E, sp_law_k12 K vs H Q E → vs.length = 1 := by
  rintro vs H Q E ⟨_, _, rfl, _⟩
  rfl
def t_law_k12 (K : PySem.W.Frag) (E : XK) : TS :=
  tSeq (tAsg (tCall (sp_law_sizes_by K) [] E0 (tCons (tVar 0) (tCons (tC (.int 0)) tNil))) (gName 1))
    (tSeq (tAsg (tLst (tCons (tLc (iList K (tVar 1)) (gName 11) tYes (tC .non) [11]) (tCons (tLst tNil) (tCons (tC (.int 0)) tNil)))) (gName 2))
    (tSeq (tAsg (tLst tNil) (gName 3))
    (tSeq (tAsg (tLst tNil) (gName 4))
    (tSeq (tForP (iRng1 (tCons (tCall (sp_law_drawn K) [] E0 (tCons (tVar 0) (tCons (tC (.int 20)) (tCons (tOp (rIxL K) (tLst (tCons (tC (.int 13)) (tCons (tC (.int 61)) tNil))) (tCall (sp_law_drawn K) [] E0 (tCons (tVar 0) (tCons (tC (.int 21)) (tCons (tC (.int 2)) tNil))))) tNil)))) tNil)) (gName 5) (tSeq (tAsg (tCall (sp_law_deed_by K) [] E0 (tCons (tVar 0) (tCons (tOp rAddI (tC (.int 30)) (tOp rMulI (tC (.int 10)) (tVar 5))) (tCons (tVar 2) tNil)))) (gName 6))
    (tSeq (tDrop (tBM K "list" rAppend (tVar 3) (tCons (tVar 6) tNil)))
    (tDrop (tBM K "list" rAppend (tVar 4) (tCons (tCall (sp_law_due K) [] E0 (tCons (tVar 1) (tCons (tVar 2) (tCons (tVar 6) tNil)))) tNil))))))
    (tSeq (tIfS (tTest (tOp rEq (tCall (sp_law_drawn K) [] E0 (tCons (tVar 0) (tCons (tC (.int 22)) (tCons (tC (.int 8)) tNil)))) (tC (.int 1)))) (tSeq (tAsg (tOp (rIxL K) (tLst (tCons (tLst tNil) (tCons (tLst (tCons (tC (.int 0)) tNil)) (tCons (tLst (tCons (tC (.int 10)) tNil)) (tCons (tOp rRep (tLst (tCons (tC (.int 1)) tNil)) (tC (.int 9))) tNil))))) (tCall (sp_law_drawn K) [] E0 (tCons (tVar 0) (tCons (tC (.int 23)) (tCons (tC (.int 4)) tNil))))) (gName 1))
    (tRet (tCall (sp_law_refused K) [] E0 (tCons (tVar 1) (tCons (tVar 3) tNil))))) (tNext))
    (tSeq (tAsg (tLst (tCons (tCB (rListOf K) (tCons (tVar 1) tNil)) (tCons (tCB (rListOf K) (tCons (tVar 3) tNil)) tNil))) (gName 7))
    (tSeq (tForP (iRng1 (tCons (tC (.int 2)) tNil)) (gName 8) (tSeq (tAsg (tCall (sp_replay K) [] E0 (tCons (tOp (rIxL K) (tVar 7) (tC (.int 0))) (tCons (tOp (rIxL K) (tVar 7) (tC (.int 1))) tNil))) (gName 9))
    (tSeq (tIfS (tOr (tNot (tB (tCB (rIsi K) (tCons (tVar 9) (tCons (tC (.ty "tuple")) tNil))))) (tOr (tTest (tOp rNe (tCB (rLenSeq K) (tCons (tVar 9) tNil)) (tC (.int 2)))) (tTest (tOp (rNeDI K) (tVar 7) (tLst (tCons (tVar 1) (tCons (tVar 3) tNil))))))) (tRet (tC (.bl false))) (tNext))
    (tSeq (tIfS (tOr (tNot (tB (tCall (sp_law_alike K) [] E0 (tCons (tOp (rIxT K) (tVar 9) (tC (.int 0))) (tCons (tVar 4) tNil))))) (tNot (tB (tCall (sp_law_held K) [] E0 (tCons (tOp (rIxT K) (tVar 9) (tC (.int 1))) (tCons (tOp (rIxL K) (tVar 2) (tC (.int 0))) tNil)))))) (tRet (tC (.bl false))) (tNext))
    (tSeq (tForP (iList K (tOp (rIxT K) (tVar 9) (tC (.int 0)))) (gName 10) (tIfS (tB (tCB (rIsi K) (tCons (tVar 10) (tCons (tC (.ty "list")) tNil)))) (tDrop (tBM K "list" rAppend (tVar 10) (tCons (tC (.int 9)) tNil))) (tNext)))
    (tSeq (tIfS (tTest (tOp (rNeDI K) (tLc (iList K (tOp (rIxT K) (tVar 9) (tC (.int 0)))) (gName 10) (tB (tCB (rIsi K) (tCons (tVar 10) (tCons (tC (.ty "list")) tNil)))) (tVar 10) [10]) (tLc (iList K (tVar 4)) (gName 10) (tB (tCB (rIsi K) (tCons (tVar 10) (tCons (tC (.ty "list")) tNil)))) (tOp rCat (tVar 10) (tLst (tCons (tC (.int 9)) tNil))) [10]))) (tRet (tC (.bl false))) (tNext))
    (tSeq (tDrop (tBM0 K "list" rClear (tOp (rIxT K) (tVar 9) (tC (.int 0)))))
    (tDrop (tBM K "list" rAppend (tOp (rIxT K) (tVar 9) (tC (.int 1))) (tCons (tC (.int 9)) tNil))))))))))
    (tRet (tOp (rEqDI K) (tVar 7) (tLst (tCons (tVar 1) (tCons (tVar 3) tNil))))))))))))
theorem pure_law_k12 {K : PySem.W.Frag} (vs : List V) (H : Hp) (Q : VK) (E : XK) (h : sp_law_k12 K vs H Q E) : t_law_k12 K E { nx := fun _ H' => Q .non H', rt := Q } (start ["script", "sizes", "state", "deeds", "due", "k", "deed", "handed", "lap", "found", "one", "size"] vs) H := by
  obtain ⟨a, ns, rfl, hS, hl, k⟩ := h
  unfold t_law_k12
  walk_at "go"
  intro zs ok H1 D s1 hD0 hD
  have lz := ok.2.1
  have hS1 := s1.seq hS
  walk_at "go"
  intro h hh
  refine lcMap (inj := V.int) (ns := zs) (fun _ => true) (fun _ => V.non) hh (SqL.of hD) (by omega) (fun _ => rfl) (fun i n H' hi s' TT k' => ?_) (fun i n H' hi _ s' Qv k' => ?_) (fun H2 s2 hh2 => ?_)
  · exact k' _ (Same.refl _)
  · walk_at "go"
    exact k' _ (Same.refl _)
  rw [filterAll, repOpt] at hh2
  walk_at "go"
  intro p hp
  walk_at "go"
  intro t ht
  walk_at "go"
  intro dL hdL
  walk_at "go"
  intro dU hdU
  have sA : Same H2 (upd (upd (upd (upd H2 p (.lst [])) t (.lst [.ref h, .ref p, .int 0])) dL (.lst [])) dU (.lst [])) := by walk_at "same"
  have hh3 := sA _ _ hh2
  have hp3 : upd (upd (upd (upd H2 p (.lst [])) t (.lst [.ref h, .ref p, .int 0])) dL (.lst [])) dU (.lst []) p = some (.lst []) := by walk_at "heap"
  have ht3 : upd (upd (upd (upd H2 p (.lst [])) t (.lst [.ref h, .ref p, .int 0])) dL (.lst [])) dU (.lst []) t = some (.lst [.ref h, .ref p, .int 0]) := by walk_at "heap"
  have hL3 : upd (upd (upd (upd H2 p (.lst [])) t (.lst [.ref h, .ref p, .int 0])) dL (.lst [])) dU (.lst []) dL = some (.lst []) := by walk_at "heap"
  have hU3 : upd (upd (upd (upd H2 p (.lst [])) t (.lst [.ref h, .ref p, .int 0])) dL (.lst [])) dU (.lst []) dU = some (.lst []) := upd_same
  have fU : upd (upd (upd H2 p (.lst [])) t (.lst [.ref h, .ref p, .int 0])) dL (.lst []) dU = none := hdU
  have UL : dU ≠ dL := updFreeNe fU
  have fU := updFree fU
  have Ut : dU ≠ t := updFreeNe fU
  have fU := updFree fU
  have Up : dU ≠ p := updFreeNe fU
  have fU := updFree fU
  have Uh : dU ≠ h := Ne.symm (ne_of_none hh2 fU)
  have Lt : dL ≠ t := updFreeNe hdL
  have fL := updFree hdL
  have Lp : dL ≠ p := updFreeNe fL
  have fL := updFree fL
  have Lh : dL ≠ h := Ne.symm (ne_of_none hh2 fL)
  have thp : t ≠ p := updFreeNe ht
  have ft := updFree ht
  have thh : t ≠ h := Ne.symm (ne_of_none hh2 ft)
  have hhp : h ≠ p := ne_of_none hh2 hp
  have gh : H1 h = none := hh
  have gp : H1 p = none := s2.free hp
  have gt : H1 t = none := s2.free ft
  have gL : H1 dL = none := s2.free fL
  have gU : H1 dU = none := s2.free fU
  have s3 := s2.trans sA
  generalize upd (upd (upd (upd H2 p (.lst [])) t (.lst [.ref h, .ref p, .int 0])) dL (.lst [])) dU (.lst []) = H3 at hh3 hp3 ht3 hL3 hU3 s3
  have st3 : StAt H3 t h p (List.replicate zs.length none) [] 0 := ⟨ht3, hh3, PairL.nil hp3⟩
  clear hdU hdL ht hp hh sA hh2 s2 fU fL ft hh3 hp3 ht3
  have hS3 := s3.seq hS1
  walk_at "go"
  intro J hJ
  have sJ : Same H3 (upd H3 J (.lst [.int 13, .int 61])) := sameNew (Same.refl _) hJ
  have st4 := st3.mono sJ
  have hL4 := sJ _ _ hL3
  have hU4 := sJ _ _ hU3
  have s4 := s3.trans sJ
  have hS4 := sJ.seq hS3
  generalize hJ2 : upd H3 J (.lst [.int 13, .int 61]) = H4 at sJ st4 hL4 hU4 s4 hS4
  have hJ4 : H4 J = some (.lst [.int 13, .int 61]) := by rw [← hJ2]; exact upd_same
  clear hJ2 st3 hL3 hU3 hS3 s3 hJ sJ
  walk_at "go"
  intro e0 e1
  walk_at "go"
  refine ⟨atInt (xs := [13, 61]) e0 e1, ?_⟩
  have ht : 1 ≤ ([13, 61] : List Int).getD (drawn ns 21 2).toNat 0 ∧ ([13, 61] : List Int).getD (drawn ns 21 2).toNat 0 ≤ (61 : Int) := by
    have q : (drawn ns 21 2).toNat = 0 ∨ (drawn ns 21 2).toNat = 1 := by omega
    rcases q with q | q <;> rw [q] <;> decide
  generalize ([13, 61] : List Int).getD (drawn ns 21 2).toNat 0 = top at ht ⊢
  walk_at "go"
  intro m0 m1
  walk_at "go"
  refine forRange (n := (drawn ns 20 top).toNat) (fun i σ H' => Stop (∃ (v5 v6 : Option V) (is : List (Option Nat)) (ps : List (Int × Int)) (td : Int) (ds : List Deed) (qs : List Addr) (anss : List Ans) (ws : List V), σ = [some (.ref a), some (.ref D), some (.ref t), some (.ref dL), some (.ref dU), v5, v6, none, none, none, none, none] ∧ Same H1 H' ∧
      StAt H' t h p is ps td ∧ Runs zs ds anss is ps td ∧ H' dL = some (.lst (qs.map V.ref)) ∧ DeedL H' qs ds ∧ H' dU = some (.lst ws) ∧ AnsL H' [t, h, p, dL, dU] anss ws ∧ ds.length = i ∧ (∀ d ∈ ds, ∀ m c, d ≠ .move m c))) ⟨none, none, _, [], 0, [], [], [], [], rfl, s4, st4, .nil, hL4, ⟨rfl, fun i q d h => by simp at h⟩, hU4, .nil, rfl, fun d hd => by cases hd⟩ ?_ ?_
  · clear st4 hL4 hU4 s4 hS4 hJ4
    rintro i σ H5 hi ⟨v5, v6, is, ps, td, ds, qs, anss, ws, rfl, s5, S5, R, hL5, d5, hU5, L5, dsl, nm⟩
    have hi : i < 61 := by omega
    have hS5 := s5.seq hS1
    have hD5 := s5 _ _ hD
    obtain ⟨r1, r2, r3⟩ := R.len
    have nb := R.nb
    walk_at "go"
    intro deed dq H6 hk s6 hdq
    have S6 := S5.mono s6
    have hL6 := s6 _ _ hL5
    have d6 := d5.mono s6
    have hU6 := s6 _ _ hU5
    have L6 := L5.mono s6
    have hD6 := s6 _ _ hD5
    have s16 := s5.trans s6
    have ql := d5.len
    clear S5 hL5 d5 hU5 L5 hD5 s5 s6 hS5
    walk_at "go"
    have kL : Kp [dL] H6 (upd H6 dL (.lst (qs.map V.ref ++ [.ref dq]))) := fun x o e n => by rw [upd_ne (fun w => n (by simp [w]))]; exact e
    have tn6 : ∀ z xs, H6 z = some (.tup xs) → z ∉ [dL] := fun z xs e => consNot (ne_of e hL6 (by intro q; cases q)) nilNot
    have S7 := S6.kp kL (consNot (Ne.symm Lt) nilNot) (consNot (Ne.symm Lh) nilNot) (consNot (Ne.symm Lp) nilNot) fun z u v e => tn6 z _ e
    have hdq7 := kL _ _ hdq (tn6 _ _ hdq)
    have d7 : DeedL (upd H6 dL (.lst (qs.map V.ref ++ [.ref dq]))) (qs ++ [dq]) (ds ++ [deed]) := DeedL.snoc ⟨d6.len, fun i q d a b => kL _ _ (d6.at_ i q d a b) (tn6 _ _ (d6.at_ i q d a b))⟩ hdq7
    have hL7 : upd H6 dL (.lst (qs.map V.ref ++ [.ref dq])) dL = some (.lst ((qs ++ [dq]).map V.ref)) := by rw [upd_same, List.map_append]; rfl
    have hU7 : upd H6 dL (.lst (qs.map V.ref ++ [.ref dq])) dU = some (.lst ws) := by rw [upd_ne UL]; exact hU6
    have L7 := L6.kp kL (by simp)
    have s17 : Same H1 (upd H6 dL (.lst (qs.map V.ref ++ [.ref dq]))) := sameMut s16 gL
    have hD7 := s17 _ _ hD
    generalize upd H6 dL (.lst (qs.map V.ref ++ [.ref dq])) = H7 at kL S7 hdq7 d7 hL7 hU7 L7 s17 hD7
    have lp : ps.length < 1000 := by omega
    walk_at "go"
    intro ans is' ps' td' H8 v does kp S8 an
    have tn7 : ∀ z xs, H7 z = some (.tup xs) → z ∉ [t, h, p] := fun z xs e => by
      obtain ⟨ys, q, _⟩ := S7.pa.len
      exact consNot (ne_of e S7.st (by intro q; cases q)) (consNot (ne_of e S7.hd (by intro q; cases q)) (consNot (ne_of e q (by intro q; cases q)) nilNot))
    have hL8 := kp _ _ hL7 (by simp [Lt, Lh, Lp])
    have hU8 := kp _ _ hU7 (by simp [Ut, Uh, Up])
    have d8 : DeedL H8 (qs ++ [dq]) (ds ++ [deed]) := ⟨d7.len, fun i q d a b => kp _ _ (d7.at_ i q d a b) (tn7 _ _ (d7.at_ i q d a b))⟩
    have L8 := L7.kp kp (by simp)
    have s18 := sameKp s17 kp (by
      intro z hz
      simp only [List.mem_cons, List.not_mem_nil, or_false] at hz
      rcases hz with rfl | rfl | rfl <;> assumption)
    have an8 : AnsD H8 [t, h, p, dL, dU] ans v ∧ ∀ q, v = .ref q → H7 q = none := by
      cases ans with
      | no u =>
        have an : v = .str u := an
        exact ⟨an, fun q e => by rw [an] at e; cases e⟩
      | num n =>
        have an : v = .int n := an
        exact ⟨an, fun q e => by rw [an] at e; cases e⟩
      | non =>
        have an : v = .non := an
        exact ⟨an, fun q e => by rw [an] at e; cases e⟩
      | ids l =>
        obtain ⟨q, q1, q2, q3⟩ := an
        obtain ⟨ys, y1, _⟩ := S7.pa.len
        refine ⟨⟨q, q1, q3, by simp [Ne.symm (ne_of_none S7.st q2), Ne.symm (ne_of_none S7.hd q2), Ne.symm (ne_of_none y1 q2), Ne.symm (ne_of_none hL7 q2), Ne.symm (ne_of_none hU7 q2)]⟩, fun r e => ?_⟩
        rw [q1] at e
        cases e
        exact q2
    have wl : ws.length = anss.length := L8.len
    clear S7 hL7 hU7 d7 hdq7 s17 hD7 an
    walk_at "go"
    have kU : Kp [dU] H8 (upd H8 dU (.lst (ws ++ [v]))) := fun x o e n => by rw [upd_ne (fun w => n (by simp [w]))]; exact e
    have tn8 : ∀ z xs, H8 z = some (.tup xs) → z ∉ [dU] := fun z xs e => consNot (ne_of e hU8 (by intro q; cases q)) nilNot
    refine ⟨_, _, is', ps', td', ds ++ [deed], qs ++ [dq], anss ++ [ans], ws ++ [v], rfl, sameMut s18 gU, S8.kp kU (consNot (Ne.symm Ut) nilNot) (consNot (Ne.symm Uh) nilNot) (consNot (Ne.symm Up) nilNot) fun z u v e => tn8 z _ e, R.snoc does, by rw [upd_ne (Ne.symm UL)]; exact hL8, ⟨d8.len, fun i q d a b => kU _ _ (d8.at_ i q d a b) (tn8 _ _ (d8.at_ i q d a b))⟩, upd_same, ?_, by rw [List.length_append, dsl]; rfl, fun d hd m c => ?_⟩
    · refine AnsL.snoc (L8.kp kU (by simp)) (an8.1.kp kU (by simp)) fun q e j => ?_
      exact L7.fresh (an8.2 q e) j
    · rcases List.mem_append.mp hd with q | q
      · exact nm d q m c
      · rw [List.mem_singleton.mp q]; exact hk m c
  · clear st4 hL4 hU4 s4 hS4 hJ4
    rintro σ H5 ⟨v5, v6, is, ps, td, ds, qs, anss, ws, rfl, s5, S5, R, hL5, d5, hU5, L5, dsl, nm⟩
    have hS5 := s5.seq hS1
    have hD5 := s5 _ _ hD
    obtain ⟨r1, r2, r3⟩ := R.len
    have dl : ds.length ≤ 100 := by omega
    walk_at "go"
    intro c0 c1
    walk_at "go"
    refine ifD (fun e => ?_) (fun e => ?_)
    · walk_at "go"
      intro x1 hx1
      walk_at "go"
      intro x2 hx2
      walk_at "go"
      intro x3 hx3
      walk_at "go"
      intro x4 hx4
      walk_at "go"
      intro x5 hx5
      walk_at "go"
      intro x6 hx6
      have h1 : upd (upd (upd (upd (upd (upd H5 x1 (.lst [])) x2 (.lst [.int 0])) x3 (.lst [.int 10])) x4 (.lst [.int 1])) x5 (.lst (List.replicate (Int.toNat 9) [V.int 1]).flatten)) x6 (.lst [.ref x1, .ref x2, .ref x3, .ref x5]) x1 = some (.lst (([] : List Int).map V.int)) := by walk_at "heap"
      have h2 : upd (upd (upd (upd (upd (upd H5 x1 (.lst [])) x2 (.lst [.int 0])) x3 (.lst [.int 10])) x4 (.lst [.int 1])) x5 (.lst (List.replicate (Int.toNat 9) [V.int 1]).flatten)) x6 (.lst [.ref x1, .ref x2, .ref x3, .ref x5]) x2 = some (.lst (([0] : List Int).map V.int)) := by walk_at "heap"
      have h3 : upd (upd (upd (upd (upd (upd H5 x1 (.lst [])) x2 (.lst [.int 0])) x3 (.lst [.int 10])) x4 (.lst [.int 1])) x5 (.lst (List.replicate (Int.toNat 9) [V.int 1]).flatten)) x6 (.lst [.ref x1, .ref x2, .ref x3, .ref x5]) x3 = some (.lst (([10] : List Int).map V.int)) := by walk_at "heap"
      have h4 : upd (upd (upd (upd (upd (upd H5 x1 (.lst [])) x2 (.lst [.int 0])) x3 (.lst [.int 10])) x4 (.lst [.int 1])) x5 (.lst (List.replicate (Int.toNat 9) [V.int 1]).flatten)) x6 (.lst [.ref x1, .ref x2, .ref x3, .ref x5]) x5 = some (.lst (([1, 1, 1, 1, 1, 1, 1, 1, 1] : List Int).map V.int)) := by walk_at "heap"
      have h5 : upd (upd (upd (upd (upd (upd H5 x1 (.lst [])) x2 (.lst [.int 0])) x3 (.lst [.int 10])) x4 (.lst [.int 1])) x5 (.lst (List.replicate (Int.toNat 9) [V.int 1]).flatten)) x6 (.lst [.ref x1, .ref x2, .ref x3, .ref x5]) x6 = some (.lst [.ref x1, .ref x2, .ref x3, .ref x5]) := upd_same
      have sx : Same H5 (upd (upd (upd (upd (upd (upd H5 x1 (.lst [])) x2 (.lst [.int 0])) x3 (.lst [.int 10])) x4 (.lst [.int 1])) x5 (.lst (List.replicate (Int.toNat 9) [V.int 1]).flatten)) x6 (.lst [.ref x1, .ref x2, .ref x3, .ref x5])) := by walk_at "same"
      dsimp only
      generalize upd (upd (upd (upd (upd (upd H5 x1 (.lst [])) x2 (.lst [.int 0])) x3 (.lst [.int 10])) x4 (.lst [.int 1])) x5 (.lst (List.replicate (Int.toNat 9) [V.int 1]).flatten)) x6 (.lst [.ref x1, .ref x2, .ref x3, .ref x5]) = H9 at h1 h2 h3 h4 h5 sx ⊢
      clear hx6 hx5 hx4 hx3 hx2 hx1
      have hS9 := sx.seq hS5
      have hL9 := SqL.of (K := K) (sx _ _ hL5)
      have d9 := d5.mono sx
      clear hS5 hD5 hL5 d5 hU5 L5 S5 s5 hS1 hS R
      walk_at "go"
      intro g0 g1
      obtain ⟨xk, zk, hx, at_, nok, lk⟩ : ∃ (xk : Addr) (zk : List Int), SqL K H9 xk (zk.map V.int) ∧ atI [V.ref x1, V.ref x2, V.ref x3, V.ref x5] (drawn ns 23 4) = some (V.ref xk) ∧ ¬ OkW zk ∧ zk.length ≤ 1000 := by
        have q : drawn ns 23 4 = 0 ∨ drawn ns 23 4 = 1 ∨ drawn ns 23 4 = 2 ∨ drawn ns 23 4 = 3 := by omega
        rcases q with q | q | q | q <;> rw [q]
        · exact ⟨x1, [], SqL.of h1, rfl, fun o => absurd o.1 (by decide), by decide⟩
        · exact ⟨x2, [0], SqL.of h2, rfl, fun o => absurd (o.2.2 0 (by simp)) (by decide), by decide⟩
        · exact ⟨x3, [10], SqL.of h3, rfl, fun o => absurd (o.2.2 10 (by simp)) (by decide), by decide⟩
        · exact ⟨x5, [1, 1, 1, 1, 1, 1, 1, 1, 1], SqL.of h4, rfl, fun o => absurd o.2.1 (by decide), by decide⟩
      clear h1 h2 h3 h4 sx
      have hx6 := SqL.of (K := K) h5
      walk_at "go"
      exact k
    · walk_at "go"
      intro ca hca
      walk_at "go"
      intro cb hcb
      walk_at "go"
      intro hn hhn
      have sA : Same H5 (upd (upd (upd H5 ca (.lst (zs.map V.int))) cb (.lst (qs.map V.ref))) hn (.lst [.ref ca, .ref cb])) := by walk_at "same"
      have hca6 : upd (upd (upd H5 ca (.lst (zs.map V.int))) cb (.lst (qs.map V.ref))) hn (.lst [.ref ca, .ref cb]) ca = some (.lst (zs.map V.int)) := by walk_at "heap"
      have hcb6 : upd (upd (upd H5 ca (.lst (zs.map V.int))) cb (.lst (qs.map V.ref))) hn (.lst [.ref ca, .ref cb]) cb = some (.lst (qs.map V.ref)) := by walk_at "heap"
      have hhn6 : upd (upd (upd H5 ca (.lst (zs.map V.int))) cb (.lst (qs.map V.ref))) hn (.lst [.ref ca, .ref cb]) hn = some (.lst [.ref ca, .ref cb]) := upd_same
      generalize upd (upd (upd H5 ca (.lst (zs.map V.int))) cb (.lst (qs.map V.ref))) hn (.lst [.ref ca, .ref cb]) = H6 at sA hca6 hcb6 hhn6
      have hD6 := SqL.of (K := K) (sA _ _ hD5)
      have hL6 := SqL.of (K := K) (sA _ _ hL5)
      have hU6 := sA _ _ hU5
      have d6 := d5.mono sA
      have L6 : AnsL H6 [] anss ws := (L5.mono sA).less (by simp)
      have S6 := S5.mono sA
      have ht6 := SqL.of (K := K) S6.st
      have hh6 := SqL.of (K := K) S6.hd
      have hca6 := SqL.of (K := K) hca6
      have hcb6 := SqL.of (K := K) hcb6
      have hhn6 := SqL.of (K := K) hhn6
      have nn := R.nn nm
      have ids8 := R.ids
      have wl : ws.length = anss.length := L6.len
      clear hca hcb hhn sA hD5 hL5 hU5 d5 L5 S5 S6 hS5 s5 hS1 hS
      walk_at "go"
      refine forRange (n := Int.toNat 2) (fun i σ H' => Stop (∃ (v8 v9 v10 : Option V), σ = [some (.ref a), some (.ref D), some (.ref t), some (.ref dL), some (.ref dU), v5, v6, some (.ref hn), v8, v9, v10, none] ∧ Same H6 H')) ⟨none, none, none, rfl, Same.refl _⟩ ?_ ?_
      · rintro i0 σ H7 hi ⟨v8, v9, v10, rfl, s7⟩
        have hD7 := s7.seq hD6
        have hL7 := s7.seq hL6
        have hU7 := s7 _ _ hU6
        have d7 := d6.mono s7
        have L7 := L6.mono s7
        have ht7 := s7.seq ht6
        have hh7 := s7.seq hh6
        have hca7 := s7.seq hca6
        have hcb7 := s7.seq hcb6
        have hhn7 := s7.seq hhn6
        clear hD6 hL6 d6 ht6 hh6 hca6 hcb6 hhn6
        walk_at "go"
        refine ⟨fun _ anss' is' ps' td' us fp fl fe H8 R' s8 hp hl L8 he le hfl hfe hff => ?_, fun nok => absurd ok nok⟩
        obtain ⟨q1, q2, q3, q4⟩ := R.uniq R'
        subst q1 q2 q3 q4
        have hD8 := s8.seq hD7
        have hL8 := s8.seq hL7
        have hU8 := s8 _ _ hU7
        have d8 := d7.mono s8
        have Lw8 := L7.mono s8
        have ht8 := s8.seq ht7
        have hh8 := s8.seq hh7
        have hca8 := s8.seq hca7
        have hcb8 := s8.seq hcb7
        have hhn8 := s8.seq hhn7
        have s68 := s7.trans s8
        have gl : H6 fl = none := s7.free hfl
        have ge : H6 fe = none := s7.free hfe
        have hf : ∀ (i : Nat) (q : Addr), us[i]? = some (.ref q) → H6 q = none := fun i q h => s7.free (hff i q h)
        have hpT := SqT.of (K := K) hp
        have ul : us.length = anss.length := L8.len
        clear hD7 hL7 hU7 d7 L7 ht7 hh7 hca7 hcb7 hhn7 s7 s8 hfl hfe hff R'
        walk_at "go"
        intro hm hhm
        have s9 : Same H8 (upd H8 hm (.lst [.ref D, .ref dL])) := sameNew (Same.refl _) hhm
        refine neSame (dpHand (s9.seq hhn8) (s9.seq hca8) (s9.seq hcb8) (d8.mono s9)) (dpHand (SqL.of upd_same) (s9.seq hD8) (s9.seq hL8) (d8.mono s9)) (plHand _ _) ?_
        have hD9 := s9.seq hD8
        have hL9 := s9.seq hL8
        have hU9 := s9 _ _ hU8
        have d9 := d8.mono s9
        have Lw9 := Lw8.mono s9
        have L9 := L8.mono s9
        have L9' : AnsL (upd H8 hm (.lst [.ref D, .ref dL])) [] anss us := L9.less (by simp)
        have ht9 := s9.seq ht8
        have hh9 := s9.seq hh8
        have s69 := s68.trans s9
        have hp9 := s9 _ _ hp
        have hl9 := s9 _ _ hl
        have he9 := s9 _ _ he
        have hpT9 := SqT.of (K := K) hp9
        generalize upd H8 hm (.lst [.ref D, .ref dL]) = H9 at *
        clear hD8 hL8 hU8 d8 Lw8 L8 ht8 hh8 hca8 hcb8 hhn8 s68 s9 hpT hp hl he
        have la : anss.length ≤ 1000 := by omega
        have lids : ∀ l, Ans.ids l ∈ anss → l.length ≤ 1000 := fun l hl => by have := ids8 l hl; omega
        have lis : is.length ≤ 1000 := by omega
        walk_at "go"
        refine forList (K := K) (a := fl) (xs := us) (fun i σ H' => Stop (∃ (v10 : Option V), σ = [some (.ref a), some (.ref D), some (.ref t), some (.ref dL), some (.ref dU), v5, v6, some (.ref hn), some (.int (0 + (i0 : Int))), some (.ref fp), v10, none] ∧ Same H6 H' ∧ H' fl = some (.lst us) ∧ H' fe = some (.lst (is.map optV)) ∧ H' fp = some (.tup [.ref fl, .ref fe]) ∧ Put H' i anss us))
          ⟨_, rfl, s69, hl9, he9, hp9, Put.start L9⟩ ?_ ?_ ?_
        · rintro i σ H' _ ⟨v10, rfl, s, hl, _⟩
          exact SqL.of hl
        · rintro i x σ HA hx ⟨v10, rfl, sA, hlA, heA, hpA, PA⟩
          obtain ⟨an, han⟩ := getOf (xs := anss) (i := i) (by have := getLt hx; omega)
          have xa := L9.at_ i an x han hx
          cases an with
          | no u =>
            obtain rfl : x = .str u := xa
            walk_at "go"
            exact ⟨_, rfl, sA, hlA, heA, hpA, PA.skip han fun l e => by cases e⟩
          | num n =>
            obtain rfl : x = .int n := xa
            walk_at "go"
            exact ⟨_, rfl, sA, hlA, heA, hpA, PA.skip han fun l e => by cases e⟩
          | non => exact absurd rfl (nn _ (List.mem_of_getElem? han))
          | ids l =>
            obtain ⟨q, rfl, _, nq⟩ := xa
            obtain ⟨hqA, PB⟩ := PA.app L9.dis hx han
            have fq := hf i q hx
            have ll := lids l (List.mem_of_getElem? han)
            simp only [List.mem_cons, List.not_mem_nil, or_false, not_or] at nq
            walk_at "go"
            exact ⟨_, rfl, sameMut sA fq, by rw [upd_ne (Ne.symm nq.2)]; exact hlA, by rw [upd_ne (Ne.symm nq.1)]; exact heA, by rw [upd_ne (Ne.symm (ne_of hqA hpA (by intro w; cases w)))]; exact hpA, PB⟩
        · rintro σ HA ⟨v10, rfl, sA, hlA, heA, hpA, PA⟩
          have hpTA := SqT.of (K := K) hpA
          clear hD9 hL9 hU9 d9 ht9 hh9 hp9 hl9 he9 hpT9 Lw9 L9'
          walk_at "go"
          intro D3 hD3
          refine lcMap (inj := fun v : V => v) (ns := us) isRef (fun v => v) hD3 (by rw [List.map_id']; exact SqL.of hlA) (by omega) (fun _ => rfl) (fun i x H' hx s' TT k' => ?_) (fun i x H' hx _ s' Qv k' => ?_) (fun HB sB hD3B => ?_)
          · obtain ⟨an, han⟩ := getOf (xs := anss) (i := i) (by have := getLt hx; omega)
            have xa := PA.2 i an x han hx
            cases an with
            | no u =>
              obtain rfl : x = .str u := xa
              walk_at "go"
              exact k' _ (Same.refl _)
            | num n =>
              obtain rfl : x = .int n := xa
              walk_at "go"
              exact k' _ (Same.refl _)
            | non => exact absurd rfl (nn _ (List.mem_of_getElem? han))
            | ids l =>
              obtain ⟨q, rfl, hqA⟩ := xa
              have hq' := s' _ _ hqA
              walk_at "go"
              exact k' _ (Same.refl _)
          · walk_at "go"
            exact k' _ (Same.refl _)
          rw [List.map_id'] at hD3B
          have sB6 := sA.trans sB
          have hlB := sB _ _ hlA
          have heB := sB _ _ heA
          have hpB := sB _ _ hpA
          have PB := PA.mono sB
          have hUB := SqL.of (K := K) (sB6 _ _ hU6)
          have LwB := L6.mono sB6
          clear hlA heA hpA PA hpTA hD3 hf sB sA
          walk_at "go"
          intro D4 hD4
          refine lc_list (K := K) (a := dU) (xs := ws) (fun i H' => Stop (Same HB H' ∧ ∃ cs, H' D4 = some (.lst cs) ∧ NL (hide H' [D4]) (anss.take i) cs)) ⟨sameNew (Same.refl _) hD4, [], upd_same, rfl⟩ ?_ ?_ ?_
          · rintro i H' _ ⟨s', _⟩
            exact s'.seq hUB
          · rintro i x HC hx ⟨sC, cs, hC, nl⟩
            obtain ⟨an, han⟩ := getOf (xs := anss) (i := i) (by have := getLt hx; omega)
            have xa := LwB.at_ i an x han hx
            have cl := NL.len nl
            rw [List.length_take] at cl
            rw [takeMore han]
            refine ⟨rfl, ?_⟩
            cases an with
            | no u =>
              obtain rfl : x = .str u := xa
              walk_at "go"
              exact ⟨sC, cs, hC, nl.snocNo⟩
            | num n =>
              obtain rfl : x = .int n := xa
              walk_at "go"
              exact ⟨sC, cs, hC, nl.snocNum⟩
            | non => exact absurd rfl (nn _ (List.mem_of_getElem? han))
            | ids l =>
              obtain ⟨q, rfl, hqB, _⟩ := xa
              have hqC := sC _ _ hqB
              have ll := lids l (List.mem_of_getElem? han)
              walk_at "go"
              intro z hz
              have hqz : upd HC z (.lst [.int 9]) q = some (.lst (l.map V.int)) := by walk_at "heap"
              have hzz : upd HC z (.lst [.int 9]) z = some (.lst [.int 9]) := upd_same
              walk_at "go"
              intro y hy
              have s2 : Same HC (upd (upd HC z (.lst [.int 9])) y (.lst (l.map V.int ++ [.int 9]))) := by walk_at "same"
              have hy2 : upd (upd HC z (.lst [.int 9])) y (.lst (l.map V.int ++ [.int 9])) y = some (.lst ((l ++ [9]).map V.int)) := by rw [upd_same, appInt]
              have yD : y ≠ D4 := Ne.symm (ne_of_none (updOld hC hz) hy)
              generalize upd (upd HC z (.lst [.int 9])) y (.lst (l.map V.int ++ [.int 9])) = HE at s2 hy2 ⊢
              refine ⟨cs, s2 _ _ hC, szLt (by omega), sameMut (sC.trans s2) hD4, cs ++ [.ref y], upd_same, ?_⟩
              refine NL.snocIds ?_ (nl.mono (sameHide (sameMut ((hide_same _ _).trans s2) (hide_in (by simp))) fun w hw => by rw [List.mem_singleton.mp hw]; exact hide_in (by simp)))
              rw [hide_out (by simp [yD]), upd_ne yD]
              exact hy2
          · rintro HC ⟨sC, cs, hC, nl⟩
            rw [wl, List.take_length] at nl
            refine neSame (.lst (SqL.of (sC _ _ hD3B)) (dpPut (PB.mono sC) (by omega))) (.lst (SqL.of hC) (NL.dp (nl.mono (hide_same _ _)))) (plList (plNines _)) ?_
            have hlC := sC _ _ hlB
            have hpC := SqT.of (K := K) (sC _ _ hpB)
            have heC := sC _ _ heB
            have s6C := sB6.trans sC
            have heC' : upd HC fl (.lst []) fe = some (.lst (is.map optV)) := by rw [upd_ne (Ne.symm le)]; exact heC
            have hpC' : SqT K (upd HC fl (.lst [])) fp [.ref fl, .ref fe] := SqT.of (by rw [upd_ne (ne_of (sC _ _ hpB) hlC (by intro w; cases w))]; exact sC _ _ hpB)
            walk_at "go"
            exact ⟨_, _, _, rfl, sameMut (sameMut s6C gl) ge⟩
      · rintro σ H7 ⟨v8, v9, v10, rfl, s7⟩
        have hD7 := s7.seq hD6
        have hL7 := s7.seq hL6
        have d7 := d6.mono s7
        have hca7 := s7.seq hca6
        have hcb7 := s7.seq hcb6
        have hhn7 := s7.seq hhn6
        walk_at "go"
        intro hm hhm
        have s9 : Same H7 (upd H7 hm (.lst [.ref D, .ref dL])) := sameNew (Same.refl _) hhm
        exact eqSame (dpHand (s9.seq hhn7) (s9.seq hca7) (s9.seq hcb7) (d7.mono s9)) (dpHand (SqL.of upd_same) (s9.seq hD7) (s9.seq hL7) (d7.mono s9)) (plHand _ _) (k _)
end Pw
namespace Pw
def top (i : Nat) : Stmt := PySem.Challenge.pw_parcelwall_k12_logs_done_again.main.body.getD i (.Pass ⟨0, 0, 0, 0⟩)
abbrev R : PySem.W.OpenRow := PySem.W.OpenLaw.row PySem.Challenge.rw_parcelwall_k12_logs_done_again
abbrev s_law_drawn : Stmt := (top 18)
def d_law_drawn : He.DefD := ⟨("_law_drawn", none), "_law_drawn", "_law_drawn", defArgs s_law_drawn, defBody s_law_drawn, defScope s_law_drawn, [], []⟩
abbrev s_law_sizes_by : Stmt := (top 22)
def d_law_sizes_by : He.DefD := ⟨("_law_sizes_by", none), "_law_sizes_by", "_law_sizes_by", defArgs s_law_sizes_by, defBody s_law_sizes_by, defScope s_law_sizes_by, [], []⟩
abbrev s_law_deed_by : Stmt := (top 27)
def d_law_deed_by : He.DefD := ⟨("_law_deed_by", none), "_law_deed_by", "_law_deed_by", defArgs s_law_deed_by, defBody s_law_deed_by, defScope s_law_deed_by, [], []⟩
abbrev s_is_size : Stmt := (top 11)
def d_is_size : He.DefD := ⟨("is_size", none), "is_size", "is_size", defArgs s_is_size, defBody s_is_size, defScope s_is_size, [], []⟩
abbrev s_Wall_init : Stmt := (inClass (top 13) 0)
def d_Wall_init : He.DefD := ⟨("Wall", some "__init__"), "__init__", "Wall.__init__", defArgs s_Wall_init, defBody s_Wall_init, defScope s_Wall_init, [], []⟩
abbrev s_Wall_night : Stmt := (inClass (top 13) 10)
def d_Wall_night : He.DefD := ⟨("Wall", some "night"), "night", "Wall.night", defArgs s_Wall_night, defBody s_Wall_night, defScope s_Wall_night, [], []⟩
abbrev s_least_box : Stmt := (top 12)
def d_least_box : He.DefD := ⟨("least_box", none), "least_box", "least_box", defArgs s_least_box, defBody s_least_box, defScope s_least_box, [], []⟩
abbrev s_Wall_free : Stmt := (inClass (top 13) 4)
def d_Wall_free : He.DefD := ⟨("Wall", some "free"), "free", "Wall.free", defArgs s_Wall_free, defBody s_Wall_free, defScope s_Wall_free, [], []⟩
abbrev s_Wall_come : Stmt := (inClass (top 13) 8)
def d_Wall_come : He.DefD := ⟨("Wall", some "come"), "come", "Wall.come", defArgs s_Wall_come, defBody s_Wall_come, defScope s_Wall_come, [], []⟩
abbrev s_Wall_see : Stmt := (inClass (top 13) 5)
def d_Wall_see : He.DefD := ⟨("Wall", some "see"), "see", "Wall.see", defArgs s_Wall_see, defBody s_Wall_see, defScope s_Wall_see, [], []⟩
abbrev s_Wall_fetch : Stmt := (inClass (top 13) 9)
def d_Wall_fetch : He.DefD := ⟨("Wall", some "fetch"), "fetch", "Wall.fetch", defArgs s_Wall_fetch, defBody s_Wall_fetch, defScope s_Wall_fetch, [], []⟩
abbrev s_done : Stmt := (top 15)
def d_done : He.DefD := ⟨("done", none), "done", "done", defArgs s_done, defBody s_done, defScope s_done, [], []⟩
abbrev s_Wall_held : Stmt := (inClass (top 13) 2)
def d_Wall_held : He.DefD := ⟨("Wall", some "held"), "held", "Wall.held", defArgs s_Wall_held, defBody s_Wall_held, defScope s_Wall_held, [], []⟩
abbrev s_replay : Stmt := (top 16)
def d_replay : He.DefD := ⟨("replay", none), "replay", "replay", defArgs s_replay, defBody s_replay, defScope s_replay, [], []⟩
abbrev s_law_refused : Stmt := (top 28)
def d_law_refused : He.DefD := ⟨("_law_refused", none), "_law_refused", "_law_refused", defArgs s_law_refused, defBody s_law_refused, defScope s_law_refused, [], []⟩
abbrev s_law_box_for : Stmt := (top 25)
def d_law_box_for : He.DefD := ⟨("_law_box_for", none), "_law_box_for", "_law_box_for", defArgs s_law_box_for, defBody s_law_box_for, defScope s_law_box_for, [], []⟩
abbrev s_law_due : Stmt := (top 26)
def d_law_due : He.DefD := ⟨("_law_due", none), "_law_due", "_law_due", defArgs s_law_due, defBody s_law_due, defScope s_law_due, [], []⟩
abbrev s_law_whole : Stmt := (top 19)
def d_law_whole : He.DefD := ⟨("_law_whole", none), "_law_whole", "_law_whole", defArgs s_law_whole, defBody s_law_whole, defScope s_law_whole, [], []⟩
abbrev s_law_row : Stmt := (top 20)
def d_law_row : He.DefD := ⟨("_law_row", none), "_law_row", "_law_row", defArgs s_law_row, defBody s_law_row, defScope s_law_row, [], []⟩
abbrev s_law_alike : Stmt := (top 29)
def d_law_alike : He.DefD := ⟨("_law_alike", none), "_law_alike", "_law_alike", defArgs s_law_alike, defBody s_law_alike, defScope s_law_alike, [], []⟩
abbrev s_law_held : Stmt := (top 23)
def d_law_held : He.DefD := ⟨("_law_held", none), "_law_held", "_law_held", defArgs s_law_held, defBody s_law_held, defScope s_law_held, [], []⟩
abbrev s_law_k12 : Stmt := (top 30)
def d_law_k12 : He.DefD := ⟨("law", none), "law", "law", defArgs s_law_k12, defBody s_law_k12, defScope s_law_k12, [], []⟩
def fn : List He.DefD := [d_law_drawn, d_law_sizes_by, d_law_deed_by, d_is_size, d_Wall_init, d_Wall_night, d_least_box, d_Wall_free, d_Wall_come, d_Wall_see, d_Wall_fetch, d_done, d_Wall_held, d_replay, d_law_refused, d_law_box_for, d_law_due, d_law_whole, d_law_row, d_law_alike, d_law_held, d_law_k12]
def xl : List Str := ["WallError", "NoWall", "NoSize", "NoNights", "NoBox", "NoParcel"]
def fa : List He.Fa := [.free "bool", .free "int", .free "isinstance", .free "len", .free "list", .free "range", .free "sorted", .free "str", .free "tuple", .glo "NoBox", .glo "NoNights", .glo "NoParcel", .glo "NoSize", .glo "NoWall", .glo "Wall", .glo "WallError", .glo "_law_alike", .glo "_law_box_for", .glo "_law_deed_by", .glo "_law_drawn", .glo "_law_due", .glo "_law_held", .glo "_law_refused", .glo "_law_row", .glo "_law_sizes_by", .glo "_law_whole", .glo "done", .glo "is_size", .glo "law", .glo "least_box", .glo "replay", .int "MOST_BOXES" 8, .int "MOST_SIZE" 9, .exc "NoBox", .exc "NoNights", .exc "NoParcel", .exc "NoSize", .exc "NoWall", .cls "Wall", .noat "Wall" "boxes", .noat "Wall" "inside", .noat "Wall" "parcels", .noat "Wall" "today", .mkr "Wall", .meth "Wall" "come", .meth "Wall" "fetch", .meth "Wall" "free", .meth "Wall" "held", .meth "Wall" "night", .meth "Wall" "see"]
theorem f_bool {h : Heap} {mg : Str → Option Value} {K : PySem.W.Frag} (KX : K.In h) (G : h.Ns mainGlobals mg) (c : He.SaysD fa fn K) : mg "bool" = none := He.free_ok KX G (c.fact 0)
theorem f_int {h : Heap} {mg : Str → Option Value} {K : PySem.W.Frag} (KX : K.In h) (G : h.Ns mainGlobals mg) (c : He.SaysD fa fn K) : mg "int" = none := He.free_ok KX G (c.fact 1)
theorem f_isinstance {h : Heap} {mg : Str → Option Value} {K : PySem.W.Frag} (KX : K.In h) (G : h.Ns mainGlobals mg) (c : He.SaysD fa fn K) : mg "isinstance" = none := He.free_ok KX G (c.fact 2)
theorem f_len {h : Heap} {mg : Str → Option Value} {K : PySem.W.Frag} (KX : K.In h) (G : h.Ns mainGlobals mg) (c : He.SaysD fa fn K) : mg "len" = none := He.free_ok KX G (c.fact 3)
theorem f_list {h : Heap} {mg : Str → Option Value} {K : PySem.W.Frag} (KX : K.In h) (G : h.Ns mainGlobals mg) (c : He.SaysD fa fn K) : mg "list" = none := He.free_ok KX G (c.fact 4)
theorem f_range {h : Heap} {mg : Str → Option Value} {K : PySem.W.Frag} (KX : K.In h) (G : h.Ns mainGlobals mg) (c : He.SaysD fa fn K) : mg "range" = none := He.free_ok KX G (c.fact 5)
theorem f_sorted {h : Heap} {mg : Str → Option Value} {K : PySem.W.Frag} (KX : K.In h) (G : h.Ns mainGlobals mg) (c : He.SaysD fa fn K) : mg "sorted" = none := He.free_ok KX G (c.fact 6)
theorem f_str {h : Heap} {mg : Str → Option Value} {K : PySem.W.Frag} (KX : K.In h) (G : h.Ns mainGlobals mg) (c : He.SaysD fa fn K) : mg "str" = none := He.free_ok KX G (c.fact 7)
theorem f_tuple {h : Heap} {mg : Str → Option Value} {K : PySem.W.Frag} (KX : K.In h) (G : h.Ns mainGlobals mg) (c : He.SaysD fa fn K) : mg "tuple" = none := He.free_ok KX G (c.fact 8)
theorem g_NoBox {h : Heap} {mg : Str → Option Value} {K : PySem.W.Frag} (KX : K.In h) (G : h.Ns mainGlobals mg) (c : He.SaysD fa fn K) : mg "NoBox" = some (.ref (He.ga K "NoBox")) := He.glo_ok KX G (c.fact 9)
theorem g_NoNights {h : Heap} {mg : Str → Option Value} {K : PySem.W.Frag} (KX : K.In h) (G : h.Ns mainGlobals mg) (c : He.SaysD fa fn K) : mg "NoNights" = some (.ref (He.ga K "NoNights")) := He.glo_ok KX G (c.fact 10)
theorem g_NoParcel {h : Heap} {mg : Str → Option Value} {K : PySem.W.Frag} (KX : K.In h) (G : h.Ns mainGlobals mg) (c : He.SaysD fa fn K) : mg "NoParcel" = some (.ref (He.ga K "NoParcel")) := He.glo_ok KX G (c.fact 11)
theorem g_NoSize {h : Heap} {mg : Str → Option Value} {K : PySem.W.Frag} (KX : K.In h) (G : h.Ns mainGlobals mg) (c : He.SaysD fa fn K) : mg "NoSize" = some (.ref (He.ga K "NoSize")) := He.glo_ok KX G (c.fact 12)
theorem g_NoWall {h : Heap} {mg : Str → Option Value} {K : PySem.W.Frag} (KX : K.In h) (G : h.Ns mainGlobals mg) (c : He.SaysD fa fn K) : mg "NoWall" = some (.ref (He.ga K "NoWall")) := He.glo_ok KX G (c.fact 13)
theorem g_Wall {h : Heap} {mg : Str → Option Value} {K : PySem.W.Frag} (KX : K.In h) (G : h.Ns mainGlobals mg) (c : He.SaysD fa fn K) : mg "Wall" = some (.ref (He.ga K "Wall")) := He.glo_ok KX G (c.fact 14)
theorem g_WallError {h : Heap} {mg : Str → Option Value} {K : PySem.W.Frag} (KX : K.In h) (G : h.Ns mainGlobals mg) (c : He.SaysD fa fn K) : mg "WallError" = some (.ref (He.ga K "WallError")) := He.glo_ok KX G (c.fact 15)
theorem g_law_alike {h : Heap} {mg : Str → Option Value} {K : PySem.W.Frag} (KX : K.In h) (G : h.Ns mainGlobals mg) (c : He.SaysD fa fn K) : mg "_law_alike" = some (.ref (He.ga K "_law_alike")) := He.glo_ok KX G (c.fact 16)
theorem g_law_box_for {h : Heap} {mg : Str → Option Value} {K : PySem.W.Frag} (KX : K.In h) (G : h.Ns mainGlobals mg) (c : He.SaysD fa fn K) : mg "_law_box_for" = some (.ref (He.ga K "_law_box_for")) := He.glo_ok KX G (c.fact 17)
theorem g_law_deed_by {h : Heap} {mg : Str → Option Value} {K : PySem.W.Frag} (KX : K.In h) (G : h.Ns mainGlobals mg) (c : He.SaysD fa fn K) : mg "_law_deed_by" = some (.ref (He.ga K "_law_deed_by")) := He.glo_ok KX G (c.fact 18)
theorem g_law_drawn {h : Heap} {mg : Str → Option Value} {K : PySem.W.Frag} (KX : K.In h) (G : h.Ns mainGlobals mg) (c : He.SaysD fa fn K) : mg "_law_drawn" = some (.ref (He.ga K "_law_drawn")) := He.glo_ok KX G (c.fact 19)
theorem g_law_due {h : Heap} {mg : Str → Option Value} {K : PySem.W.Frag} (KX : K.In h) (G : h.Ns mainGlobals mg) (c : He.SaysD fa fn K) : mg "_law_due" = some (.ref (He.ga K "_law_due")) := He.glo_ok KX G (c.fact 20)
theorem g_law_held {h : Heap} {mg : Str → Option Value} {K : PySem.W.Frag} (KX : K.In h) (G : h.Ns mainGlobals mg) (c : He.SaysD fa fn K) : mg "_law_held" = some (.ref (He.ga K "_law_held")) := He.glo_ok KX G (c.fact 21)
theorem g_law_refused {h : Heap} {mg : Str → Option Value} {K : PySem.W.Frag} (KX : K.In h) (G : h.Ns mainGlobals mg) (c : He.SaysD fa fn K) : mg "_law_refused" = some (.ref (He.ga K "_law_refused")) := He.glo_ok KX G (c.fact 22)
theorem g_law_row {h : Heap} {mg : Str → Option Value} {K : PySem.W.Frag} (KX : K.In h) (G : h.Ns mainGlobals mg) (c : He.SaysD fa fn K) : mg "_law_row" = some (.ref (He.ga K "_law_row")) := He.glo_ok KX G (c.fact 23)
theorem g_law_sizes_by {h : Heap} {mg : Str → Option Value} {K : PySem.W.Frag} (KX : K.In h) (G : h.Ns mainGlobals mg) (c : He.SaysD fa fn K) : mg "_law_sizes_by" = some (.ref (He.ga K "_law_sizes_by")) := He.glo_ok KX G (c.fact 24)
theorem g_law_whole {h : Heap} {mg : Str → Option Value} {K : PySem.W.Frag} (KX : K.In h) (G : h.Ns mainGlobals mg) (c : He.SaysD fa fn K) : mg "_law_whole" = some (.ref (He.ga K "_law_whole")) := He.glo_ok KX G (c.fact 25)
theorem g_done {h : Heap} {mg : Str → Option Value} {K : PySem.W.Frag} (KX : K.In h) (G : h.Ns mainGlobals mg) (c : He.SaysD fa fn K) : mg "done" = some (.ref (He.ga K "done")) := He.glo_ok KX G (c.fact 26)
theorem g_is_size {h : Heap} {mg : Str → Option Value} {K : PySem.W.Frag} (KX : K.In h) (G : h.Ns mainGlobals mg) (c : He.SaysD fa fn K) : mg "is_size" = some (.ref (He.ga K "is_size")) := He.glo_ok KX G (c.fact 27)
theorem g_law {h : Heap} {mg : Str → Option Value} {K : PySem.W.Frag} (KX : K.In h) (G : h.Ns mainGlobals mg) (c : He.SaysD fa fn K) : mg "law" = some (.ref (He.ga K "law")) := He.glo_ok KX G (c.fact 28)
theorem g_least_box {h : Heap} {mg : Str → Option Value} {K : PySem.W.Frag} (KX : K.In h) (G : h.Ns mainGlobals mg) (c : He.SaysD fa fn K) : mg "least_box" = some (.ref (He.ga K "least_box")) := He.glo_ok KX G (c.fact 29)
theorem g_replay {h : Heap} {mg : Str → Option Value} {K : PySem.W.Frag} (KX : K.In h) (G : h.Ns mainGlobals mg) (c : He.SaysD fa fn K) : mg "replay" = some (.ref (He.ga K "replay")) := He.glo_ok KX G (c.fact 30)
theorem c_MOST_BOXES {h : Heap} {mg : Str → Option Value} {K : PySem.W.Frag} (KX : K.In h) (G : h.Ns mainGlobals mg) (c : He.SaysD fa fn K) : ∃ t, mg "MOST_BOXES" = some (.int 8 t) := He.int_ok KX G (c.fact 31)
theorem c_MOST_SIZE {h : Heap} {mg : Str → Option Value} {K : PySem.W.Frag} (KX : K.In h) (G : h.Ns mainGlobals mg) (c : He.SaysD fa fn K) : ∃ t, mg "MOST_SIZE" = some (.int 9 t) := He.int_ok KX G (c.fact 32)
theorem x_NoBox {K : PySem.W.Frag} (c : He.SaysD fa fn K) : PySem.W.excIn K (He.ga K "NoBox") He.veBase "ValueError.__new__" = true ∧ PySem.W.keepIn K (.ref (He.ga K "NoBox")) = true ∧ PySem.W.subIn K (.ref (He.ga K "NoBox")) (.type "BaseException") = some true ∧ PySem.W.typeIn K (.ref (He.ga K "NoBox")) = some (.type "type") := He.exc_ok (c.fact 33)
theorem x_NoNights {K : PySem.W.Frag} (c : He.SaysD fa fn K) : PySem.W.excIn K (He.ga K "NoNights") He.veBase "ValueError.__new__" = true ∧ PySem.W.keepIn K (.ref (He.ga K "NoNights")) = true ∧ PySem.W.subIn K (.ref (He.ga K "NoNights")) (.type "BaseException") = some true ∧ PySem.W.typeIn K (.ref (He.ga K "NoNights")) = some (.type "type") := He.exc_ok (c.fact 34)
theorem x_NoParcel {K : PySem.W.Frag} (c : He.SaysD fa fn K) : PySem.W.excIn K (He.ga K "NoParcel") He.veBase "ValueError.__new__" = true ∧ PySem.W.keepIn K (.ref (He.ga K "NoParcel")) = true ∧ PySem.W.subIn K (.ref (He.ga K "NoParcel")) (.type "BaseException") = some true ∧ PySem.W.typeIn K (.ref (He.ga K "NoParcel")) = some (.type "type") := He.exc_ok (c.fact 35)
theorem x_NoSize {K : PySem.W.Frag} (c : He.SaysD fa fn K) : PySem.W.excIn K (He.ga K "NoSize") He.veBase "ValueError.__new__" = true ∧ PySem.W.keepIn K (.ref (He.ga K "NoSize")) = true ∧ PySem.W.subIn K (.ref (He.ga K "NoSize")) (.type "BaseException") = some true ∧ PySem.W.typeIn K (.ref (He.ga K "NoSize")) = some (.type "type") := He.exc_ok (c.fact 36)
theorem x_NoWall {K : PySem.W.Frag} (c : He.SaysD fa fn K) : PySem.W.excIn K (He.ga K "NoWall") He.veBase "ValueError.__new__" = true ∧ PySem.W.keepIn K (.ref (He.ga K "NoWall")) = true ∧ PySem.W.subIn K (.ref (He.ga K "NoWall")) (.type "BaseException") = some true ∧ PySem.W.typeIn K (.ref (He.ga K "NoWall")) = some (.type "type") := He.exc_ok (c.fact 37)
theorem clW {K : PySem.W.Frag} (c : He.SaysD fa fn K) : Cls K (He.ga K "Wall") := He.cls_ok (c.fact 38)
theorem tW {K : PySem.W.Frag} (c : He.SaysD fa fn K) : TW K := ⟨clW c, He.noat_ok (c.fact 39), He.noat_ok (c.fact 40), He.noat_ok (c.fact 41), He.noat_ok (c.fact 42)⟩
theorem mkW {K : PySem.W.Frag} (c : He.SaysD fa fn K) : Mk K (He.ga K "Wall") (He.ma K (He.ga K "Wall") "__init__") := He.mkr_ok (c.fact 43)
theorem m_Wall_come {K : PySem.W.Frag} (c : He.SaysD fa fn K) : Meth K (He.ga K "Wall") "come" (He.ma K (He.ga K "Wall") "come") := He.meth_ok (c.fact 44)
theorem m_Wall_fetch {K : PySem.W.Frag} (c : He.SaysD fa fn K) : Meth K (He.ga K "Wall") "fetch" (He.ma K (He.ga K "Wall") "fetch") := He.meth_ok (c.fact 45)
theorem m_Wall_free {K : PySem.W.Frag} (c : He.SaysD fa fn K) : Meth K (He.ga K "Wall") "free" (He.ma K (He.ga K "Wall") "free") := He.meth_ok (c.fact 46)
theorem m_Wall_held {K : PySem.W.Frag} (c : He.SaysD fa fn K) : Meth K (He.ga K "Wall") "held" (He.ma K (He.ga K "Wall") "held") := He.meth_ok (c.fact 47)
theorem m_Wall_night {K : PySem.W.Frag} (c : He.SaysD fa fn K) : Meth K (He.ga K "Wall") "night" (He.ma K (He.ga K "Wall") "night") := He.meth_ok (c.fact 48)
theorem m_Wall_see {K : PySem.W.Frag} (c : He.SaysD fa fn K) : Meth K (He.ga K "Wall") "see" (He.ma K (He.ga K "Wall") "see") := He.meth_ok (c.fact 49)
theorem sc_law_drawn : FnScope ["script", "k", "many", "cell", "stir"] ["script", "k", "many"] (defScope s_law_drawn) := ⟨rfl, rfl, rfl, by decide +kernel, rfl, by decide +kernel, by decide +kernel⟩
theorem ok_law_drawn {P : Program} {w : World} {base : Heap} {h : Heap} {mg : Str → Option Value} {K : PySem.W.Frag} (KX : K.In h) (G : h.Ns mainGlobals mg) (c : He.SaysD fa fn K) (xs : XS K xl) : OkF P w K mg base CX0 1 (He.fAd K d_law_drawn.at_) ["script", "k", "many"] (sp_law_drawn K) := by
  obtain ⟨fd, F⟩ := c.def_ 0 (d := d_law_drawn) rfl
  have nd := sc_law_drawn.nd
  refine ⟨fd, F.ok sc_law_drawn (len_law_drawn (K := K)) (fun cdv A outer s H vs Q E hr hsp => ⟨t_law_drawn K E, PSs.nox ?_, pure_law_drawn vs H Q E hsp⟩), F.bindsN (fun _ _ _ _ _ _ us hl => match us, hl with | [_, _, _], _ => rfl), F.kp⟩
  exact pss_cons (ps_set (i := 3) nd rfl (Or.inl rfl) (pe_int))
      (pss_cons (ps_if (pt_cmpR op_gt (pe_callB call_len_seq (by rfl) (f_len KX G c) (by decide +kernel) (pa_cons (pv 0) pa_nil)) (pe_int) (nomark _))
        (pss_one (ps_set (i := 3) nd rfl (Or.inl rfl) (pe_ix ix_list (pv 0) (pe_op op_modN (pv 1) (pe_callB call_len_seq (by rfl) (f_len KX G c) (by decide +kernel) (pa_cons (pv 0) pa_nil))) (fun _ _ => rfl))))
        (pss_nil))
      (pss_cons (ps_set (i := 4) nd rfl (Or.inl rfl) (pe_op op_mod (pe_op op_add (pe_op op_add (pe_op op_mul (pv 3) (pe_int)) (pe_op op_mul (pe_op op_add (pv 1) (pe_int)) (pe_int))) (pe_callB call_len_seq (by rfl) (f_len KX G c) (by decide +kernel) (pa_cons (pv 0) pa_nil))) (pe_int)))
      (pss_cons (ps_set (i := 4) nd rfl (Or.inl rfl) (pe_op op_mod (pe_op op_add (pe_op op_add (pe_op op_mul (pv 4) (pv 4)) (pe_op op_mul (pv 1) (pe_int))) (pe_int)) (pe_int)))
      (pss_one (ps_ret (pe_op op_modN (pe_op op_fdiv (pe_op op_mod (pe_op op_mul (pv 4) (pe_int)) (pe_int)) (pe_int)) (pv 2)))))))
theorem sc_law_sizes_by : FnScope ["script", "base", "many", "top", "k"] ["script", "base"] (defScope s_law_sizes_by) := ⟨rfl, rfl, rfl, by decide +kernel, rfl, by decide +kernel, by decide +kernel⟩
theorem ok_law_sizes_by {P : Program} {w : World} {base : Heap} {h : Heap} {mg : Str → Option Value} {K : PySem.W.Frag} (KX : K.In h) (G : h.Ns mainGlobals mg) (c : He.SaysD fa fn K) (xs : XS K xl) : OkF P w K mg base CX0 2 (He.fAd K d_law_sizes_by.at_) ["script", "base"] (sp_law_sizes_by K) := by
  obtain ⟨fd, F⟩ := c.def_ 1 (d := d_law_sizes_by) rfl
  obtain ⟨fd_law_drawn, G_law_drawn, b_law_drawn, k_law_drawn⟩ := ok_law_drawn (P := P) (w := w) (base := base) KX G c xs
  have nd := sc_law_sizes_by.nd
  refine ⟨fd, F.ok sc_law_sizes_by (len_law_sizes_by (K := K)) (fun cdv A outer s H vs Q E hr hsp => ⟨t_law_sizes_by K E, PSs.nox ?_, pure_law_sizes_by vs H Q E hsp⟩), F.bindsN (fun _ _ _ _ _ _ us hl => match us, hl with | [_, _], _ => rfl), F.kp⟩
  exact pss_cons (ps_set (i := 2) nd rfl (Or.inl rfl) (pe_op op_add (pe_int) (pe_call G_law_drawn (hr.mono (by decide : 1 ≤ 1)) rfl (g_law_drawn KX G c) k_law_drawn b_law_drawn .nil pass0 (pa_cons (pv 0) (pa_cons (pv 1) (pa_cons (pe_int) pa_nil))))))
      (pss_cons (ps_set (i := 3) nd rfl (Or.inr rfl) (pe_ix ix_list (pe_lst (pa_cons (pe_int) (pa_cons (pe_int) (pa_cons (pe_int) pa_nil)))) (pe_call G_law_drawn (hr.mono (by decide : 1 ≤ 1)) rfl (g_law_drawn KX G c) k_law_drawn b_law_drawn .nil pass0 (pa_cons (pv 0) (pa_cons (pe_op op_add (pv 1) (pe_int)) (pa_cons (pe_int) pa_nil)))) (fun _ _ => rfl)))
      (pss_one (ps_ret (pe_lc (own := [("k", 4)]) (g := gName 4) rfl nd (pi_range1 rfl (f_range KX G c) (pa_cons (pv 2) pa_nil)) (blkOk_by (N := ["script", "base", "many", "top", "k"]) (sc := defScope s_law_sizes_by) (by decide +kernel)) (fun _ _ _ _ _ => pg_name (i := 4) nd rfl (Or.inl rfl)) (fun _ _ _ _ _ => pts_nil) (fun _ _ _ _ _ => pe_op op_add (pe_int) (pe_call G_law_drawn (hr.mono (by decide : 1 ≤ 1)) rfl (g_law_drawn KX G c) k_law_drawn b_law_drawn .nil pass0 (pa_cons (pv 0) (pa_cons (pe_op op_add (pe_op op_add (pv 1) (pe_int)) (pv 4)) (pa_cons (pv 3) pa_nil)))))))))
theorem sc_law_deed_by : FnScope ["script", "k", "state", "way", "parcel", "size", "nights"] ["script", "k", "state"] (defScope s_law_deed_by) := ⟨rfl, rfl, rfl, by decide +kernel, rfl, by decide +kernel, by decide +kernel⟩
theorem ok_law_deed_by {P : Program} {w : World} {base : Heap} {h : Heap} {mg : Str → Option Value} {K : PySem.W.Frag} (KX : K.In h) (G : h.Ns mainGlobals mg) (c : He.SaysD fa fn K) (xs : XS K xl) : OkF P w K mg base CX0 2 (He.fAd K d_law_deed_by.at_) ["script", "k", "state"] (sp_law_deed_by K) := by
  obtain ⟨fd, F⟩ := c.def_ 2 (d := d_law_deed_by) rfl
  obtain ⟨fd_law_drawn, G_law_drawn, b_law_drawn, k_law_drawn⟩ := ok_law_drawn (P := P) (w := w) (base := base) KX G c xs
  have nd := sc_law_deed_by.nd
  refine ⟨fd, F.ok sc_law_deed_by (len_law_deed_by (K := K)) (fun cdv A outer s H vs Q E hr hsp => ⟨t_law_deed_by K E, PSs.nox ?_, pure_law_deed_by vs H Q E hsp⟩), F.bindsN (fun _ _ _ _ _ _ us hl => match us, hl with | [_, _, _], _ => rfl), F.kp⟩
  exact pss_cons (ps_set (i := 3) nd rfl (Or.inl rfl) (pe_call G_law_drawn (hr.mono (by decide : 1 ≤ 1)) rfl (g_law_drawn KX G c) k_law_drawn b_law_drawn .nil pass0 (pa_cons (pv 0) (pa_cons (pv 1) (pa_cons (pe_int) pa_nil)))))
      (pss_cons (ps_if (pt_cmpR op_eq (pv 3) (pe_int) (nomark _))
        (pss_one (ps_ret (pe_tup (pa_cons (pe_str) pa_nil))))
        (pss_nil))
      (pss_cons (ps_if (pt_cmpR op_lt (pv 3) (pe_int) (nomark _))
        (pss_cons (ps_set (i := 4) nd rfl (Or.inl rfl) (pe_call G_law_drawn (hr.mono (by decide : 1 ≤ 1)) rfl (g_law_drawn KX G c) k_law_drawn b_law_drawn .nil pass0 (pa_cons (pv 0) (pa_cons (pe_op op_add (pv 1) (pe_int)) (pa_cons (pe_op op_add (pe_callB call_len_seq (by rfl) (f_len KX G c) (by decide +kernel) (pa_cons (pe_ix ix_list (pv 2) (pe_int) (fun _ _ => rfl)) pa_nil)) (pe_int)) pa_nil)))))
      (pss_cutP (ps_if (pt_cmpR op_eq (pe_call G_law_drawn (hr.mono (by decide : 1 ≤ 1)) rfl (g_law_drawn KX G c) k_law_drawn b_law_drawn .nil pass0 (pa_cons (pv 0) (pa_cons (pe_op op_add (pv 1) (pe_int)) (pa_cons (pe_int) pa_nil)))) (pe_int) (nomark _))
        (pss_one (ps_set (i := 4) nd rfl (Or.inl rfl) (pe_ix ix_list (pe_lst (pa_cons (pe_un un_neg (pe_int)) (pa_cons (pe_op op_add (pe_callB call_len_seq (by rfl) (f_len KX G c) (by decide +kernel) (pa_cons (pe_ix ix_list (pv 2) (pe_int) (fun _ _ => rfl)) pa_nil)) (pe_op op_pow (pe_int) (pe_int))) (pa_cons (pe_un un_neg (pe_op op_pow (pe_int) (pe_int))) pa_nil)))) (pe_call G_law_drawn (hr.mono (by decide : 1 ≤ 1)) rfl (g_law_drawn KX G c) k_law_drawn b_law_drawn .nil pass0 (pa_cons (pv 0) (pa_cons (pe_op op_add (pv 1) (pe_int)) (pa_cons (pe_int) pa_nil)))) (fun _ _ => rfl))))
        (pss_nil))
      (pss_one (ps_ret (pe_tup (pa_cons (pe_str) (pa_cons (pv 4) pa_nil)))))))
        (pss_nil))
      (pss_cons (ps_set (i := 5) nd rfl (Or.inl rfl) (pe_op op_add (pe_int) (pe_call G_law_drawn (hr.mono (by decide : 1 ≤ 1)) rfl (g_law_drawn KX G c) k_law_drawn b_law_drawn .nil pass0 (pa_cons (pv 0) (pa_cons (pe_op op_add (pv 1) (pe_int)) (pa_cons (pe_ix ix_list (pe_lst (pa_cons (pe_int) (pa_cons (pe_int) (pa_cons (pe_int) pa_nil)))) (pe_call G_law_drawn (hr.mono (by decide : 1 ≤ 1)) rfl (g_law_drawn KX G c) k_law_drawn b_law_drawn .nil pass0 (pa_cons (pv 0) (pa_cons (pe_op op_add (pv 1) (pe_int)) (pa_cons (pe_int) pa_nil)))) (fun _ _ => rfl)) pa_nil))))))
      (pss_cons (ps_set (i := 6) nd rfl (Or.inl rfl) (pe_op op_add (pe_int) (pe_call G_law_drawn (hr.mono (by decide : 1 ≤ 1)) rfl (g_law_drawn KX G c) k_law_drawn b_law_drawn .nil pass0 (pa_cons (pv 0) (pa_cons (pe_op op_add (pv 1) (pe_int)) (pa_cons (pe_int) pa_nil))))))
      (pss_cutP (ps_if (pt_cmpR op_eq (pe_call G_law_drawn (hr.mono (by decide : 1 ≤ 1)) rfl (g_law_drawn KX G c) k_law_drawn b_law_drawn .nil pass0 (pa_cons (pv 0) (pa_cons (pe_op op_add (pv 1) (pe_int)) (pa_cons (pe_int) pa_nil)))) (pe_int) (nomark _))
        (pss_one (ps_set (i := 5) nd rfl (Or.inl rfl) (pe_ix ix_list (pe_lst (pa_cons (pe_int) (pa_cons (pe_int) (pa_cons (pe_un un_neg (pe_int)) (pa_cons (pe_op op_pow (pe_int) (pe_int)) pa_nil))))) (pe_call G_law_drawn (hr.mono (by decide : 1 ≤ 1)) rfl (g_law_drawn KX G c) k_law_drawn b_law_drawn .nil pass0 (pa_cons (pv 0) (pa_cons (pe_op op_add (pv 1) (pe_int)) (pa_cons (pe_int) pa_nil)))) (fun _ _ => rfl))))
        (pss_nil))
      (pss_cutP (ps_if (pt_cmpR op_eq (pe_call G_law_drawn (hr.mono (by decide : 1 ≤ 1)) rfl (g_law_drawn KX G c) k_law_drawn b_law_drawn .nil pass0 (pa_cons (pv 0) (pa_cons (pe_op op_add (pv 1) (pe_int)) (pa_cons (pe_int) pa_nil)))) (pe_int) (nomark _))
        (pss_one (ps_set (i := 6) nd rfl (Or.inl rfl) (pe_ix ix_list (pe_lst (pa_cons (pe_int) (pa_cons (pe_int) (pa_cons (pe_un un_neg (pe_int)) (pa_cons (pe_op op_pow (pe_int) (pe_int)) pa_nil))))) (pe_call G_law_drawn (hr.mono (by decide : 1 ≤ 1)) rfl (g_law_drawn KX G c) k_law_drawn b_law_drawn .nil pass0 (pa_cons (pv 0) (pa_cons (pe_op op_add (pv 1) (pe_int)) (pa_cons (pe_int) pa_nil)))) (fun _ _ => rfl))))
        (pss_nil))
      (pss_one (ps_ret (pe_tup (pa_cons (pe_str) (pa_cons (pv 5) (pa_cons (pv 6) pa_nil))))))))))))
theorem sc_is_size : FnScope ["number"] ["number"] (defScope s_is_size) := ⟨rfl, rfl, rfl, by decide +kernel, rfl, by decide +kernel, by decide +kernel⟩
theorem ok_is_size {P : Program} {w : World} {base : Heap} {h : Heap} {mg : Str → Option Value} {K : PySem.W.Frag} (KX : K.In h) (G : h.Ns mainGlobals mg) (c : He.SaysD fa fn K) (xs : XS K xl) : OkF P w K mg base CX0 1 (He.fAd K d_is_size.at_) ["number"] (sp_is_size K) := by
  obtain ⟨fd, F⟩ := c.def_ 3 (d := d_is_size) rfl
  have nd := sc_is_size.nd
  refine ⟨fd, F.ok sc_is_size (len_is_size (K := K)) (fun cdv A outer s H vs Q E hr hsp => ⟨t_is_size K E, PSs.nox ?_, pure_is_size vs H Q E hsp⟩), F.bindsN (fun _ _ _ _ _ _ us hl => match us, hl with | [_], _ => rfl), F.kp⟩
  exact pss_one (ps_ret (pe_and (pe_cmpR op_le (pe_int) (pv 0) (nomark _)) (pe_one (pe_cmpR op_le (pv 0) (pe_glob rfl (c_MOST_SIZE KX G c).choose_spec ⟨_, rfl⟩) (nomark _)))))
theorem sc_Wall_init : FnScope ["self", "sizes", "size"] ["self", "sizes"] (defScope s_Wall_init) := ⟨rfl, rfl, rfl, by decide +kernel, rfl, by decide +kernel, by decide +kernel⟩
theorem ok_Wall_init {P : Program} {w : World} {base : Heap} {h : Heap} {mg : Str → Option Value} {K : PySem.W.Frag} (KX : K.In h) (G : h.Ns mainGlobals mg) (c : He.SaysD fa fn K) (xs : XS K xl) : OkF P w K mg base (L2.CX P w) 2 (He.fAd K d_Wall_init.at_) ["self", "sizes"] (sp_Wall_init K) := by
  obtain ⟨fd, F⟩ := c.def_ 4 (d := d_Wall_init) rfl
  obtain ⟨fd_is_size, G_is_size, b_is_size, k_is_size⟩ := ok_is_size (P := P) (w := w) (base := base) KX G c xs
  have nd := sc_Wall_init.nd
  refine ⟨fd, F.ok sc_Wall_init (len_Wall_init (K := K)) (fun cdv A outer s H vs Q E hr hsp => ⟨t_Wall_init K E, id ?_, pure_Wall_init (tW c) vs H Q E hsp⟩), F.bindsN (fun _ _ _ _ _ _ us hl => match us, hl with | [_, _], _ => rfl), F.kp⟩
  exact pss_cons (ps_if (PW.pt (pw_or (pt_cmpR op_lt (pe_callB call_len_seq (by rfl) (f_len KX G c) (by decide +kernel) (pa_cons (pv 1) pa_nil)) (pe_int) (nomark _)) (pw_or1 (pt_cmpR op_gt (pe_callB call_len_seq (by rfl) (f_len KX G c) (by decide +kernel) (pa_cons (pv 1) pa_nil)) (pe_glob rfl (c_MOST_BOXES KX G c).choose_spec ⟨_, rfl⟩) (nomark _)))))
        (pss_one (ps_raise rfl (takes_of rfl rfl rfl rfl) (pmk_own PySem.F.excBase_ValueError (x_NoWall c).1 (g_NoWall KX G c) (x_NoWall c).2.1 (raises_own (x_NoWall c).2.2.1 (x_NoWall c).2.2.2) (by exact rfl))))
        (pss_nil))
      (pss_cons (ps_forP (passes_of rfl) rfl (pi_list (pv 1)) (pg_name (i := 2) nd rfl (Or.inl rfl))
        (pss_one (ps_if (pt_not (pt_val (pe_call G_is_size (hr.mono (by decide : 1 ≤ 1)) rfl (g_is_size KX G c) k_is_size b_is_size .nil pass0 (pa_cons (pv 2) pa_nil))))
        (pss_one (ps_raise rfl (takes_of rfl rfl rfl rfl) (pmk_own PySem.F.excBase_ValueError (x_NoWall c).1 (g_NoWall KX G c) (x_NoWall c).2.1 (raises_own (x_NoWall c).2.2.1 (x_NoWall c).2.2.2) (by exact rfl))))
        (pss_nil))))
      (pss_cons (ps_fld (pv 0) (pe_callTy call_list_of (by rfl) (f_list KX G c) (by decide +kernel) (pa_cons (pv 1) pa_nil)) rfl)
      (pss_cons (ps_fld (pv 0) (pe_lc (own := [("size", 2)]) (g := gName 2) rfl nd (pi_list (pv 1)) (blkOk_by (N := ["self", "sizes", "size"]) (sc := defScope s_Wall_init) (by decide +kernel)) (fun _ _ _ _ _ => pg_name (i := 2) nd rfl (Or.inl rfl)) (fun _ _ _ _ _ => pts_nil) (fun _ _ _ _ _ => pe_non)) rfl)
      (pss_cons (ps_fld (pv 0) (pe_lst pa_nil) rfl)
      (pss_one (ps_fld (pv 0) (pe_int) rfl))))))
theorem sc_Wall_night : FnScope ["self", "back", "box", "parcel"] ["self"] (defScope s_Wall_night) := ⟨rfl, rfl, rfl, by decide +kernel, rfl, by decide +kernel, by decide +kernel⟩
theorem ok_Wall_night {P : Program} {w : World} {base : Heap} {h : Heap} {mg : Str → Option Value} {K : PySem.W.Frag} (KX : K.In h) (G : h.Ns mainGlobals mg) (c : He.SaysD fa fn K) (xs : XS K xl) : OkF P w K mg base CX0 1 (He.fAd K d_Wall_night.at_) ["self"] (sp_Wall_night K) := by
  obtain ⟨fd, F⟩ := c.def_ 5 (d := d_Wall_night) rfl
  have nd := sc_Wall_night.nd
  refine ⟨fd, F.ok sc_Wall_night (len_Wall_night (K := K)) (fun cdv A outer s H vs Q E hr hsp => ⟨t_Wall_night K E, PSs.nox ?_, pure_Wall_night (tW c) vs H Q E hsp⟩), F.bindsN (fun _ _ _ _ _ _ us hl => match us, hl with | [_], _ => rfl), F.kp⟩
  exact pss_cons (ps_fld (pv 0) (pe_op op_add (pe_fld (pv 0) rfl) (pe_int)) rfl)
      (pss_cons (ps_set (i := 1) nd rfl (Or.inl rfl) (pe_lst pa_nil))
      (pss_cons (ps_forP (PassesOwn.never) rfl (pi_range1 rfl (f_range KX G c) (pa_cons (pe_callB call_len_seq (by rfl) (f_len KX G c) (by decide +kernel) (pa_cons (pe_fld (pv 0) rfl) pa_nil)) pa_nil)) (pg_name (i := 2) nd rfl (Or.inl rfl))
        (pss_cons (ps_set (i := 3) nd rfl (Or.inl rfl) (pe_ix ix_list (pe_fld (pv 0) rfl) (pv 2) (fun _ _ => rfl)))
      (pss_one (ps_if (PW.pt (pw_and (pt_cmpR op_notN (pv 3) (pe_non) (nomark _)) (pw_and1 (pt_cmpR op_le (pe_ix ix_tup (pe_ix ix_list (pe_fld (pv 0) rfl) (pv 3) (fun _ _ => rfl)) (pe_int) (fun _ _ => rfl)) (pe_fld (pv 0) rfl) (nomark _)))))
        (pss_cons (ps_expr (pe_bm PySem.F.plainAttrs_list PySem.F.slot_list_append PySem.F.type_list_append mt_append (pv 1) (pa_cons (pv 3) pa_nil)))
      (pss_one (ps_asg (pe_non) (pg_sub (pe_fld (pv 0) rfl) (pv 2) set_list))))
        (pss_nil)))))
      (pss_one (ps_ret (pe_callB cr_sortedI (by rfl) (f_sorted KX G c) (by decide +kernel) (pa_cons (pv 1) pa_nil))))))
theorem sc_least_box : FnScope ["sizes", "free", "size", "found", "box"] ["sizes", "free", "size"] (defScope s_least_box) := ⟨rfl, rfl, rfl, by decide +kernel, rfl, by decide +kernel, by decide +kernel⟩
theorem ok_least_box {P : Program} {w : World} {base : Heap} {h : Heap} {mg : Str → Option Value} {K : PySem.W.Frag} (KX : K.In h) (G : h.Ns mainGlobals mg) (c : He.SaysD fa fn K) (xs : XS K xl) : OkF P w K mg base CX0 1 (He.fAd K d_least_box.at_) ["sizes", "free", "size"] (sp_least_box K) := by
  obtain ⟨fd, F⟩ := c.def_ 6 (d := d_least_box) rfl
  have nd := sc_least_box.nd
  refine ⟨fd, F.ok sc_least_box (len_least_box (K := K)) (fun cdv A outer s H vs Q E hr hsp => ⟨t_least_box K E, PSs.nox ?_, pure_least_box vs H Q E hsp⟩), F.bindsN (fun _ _ _ _ _ _ us hl => match us, hl with | [_, _, _], _ => rfl), F.kp⟩
  exact pss_cons (ps_set (i := 3) nd rfl (Or.inl rfl) (pe_non))
      (pss_cons (ps_forP (PassesOwn.never) rfl (pi_list (pv 1)) (pg_name (i := 4) nd rfl (Or.inl rfl))
        (pss_one (ps_if (PW.pt (pw_and (pt_cmpR op_ge (pe_ix ix_list (pv 0) (pv 4) (fun _ _ => rfl)) (pv 2) (nomark _)) (pw_and1 (PW.pt (pw_or (pt_cmpR op_isN (pv 3) (pe_non) (nomark _)) (pw_or1 (pt_cmpR op_lt (pe_ix ix_list (pv 0) (pv 4) (fun _ _ => rfl)) (pe_ix ix_list (pv 0) (pv 3) (fun _ _ => rfl)) (nomark _))))))))
        (pss_one (ps_set (i := 3) nd rfl (Or.inl rfl) (pv 4)))
        (pss_nil))))
      (pss_one (ps_ret (pv 3))))
theorem sc_Wall_free : FnScope ["self", "box"] ["self"] (defScope s_Wall_free) := ⟨rfl, rfl, rfl, by decide +kernel, rfl, by decide +kernel, by decide +kernel⟩
theorem ok_Wall_free {P : Program} {w : World} {base : Heap} {h : Heap} {mg : Str → Option Value} {K : PySem.W.Frag} (KX : K.In h) (G : h.Ns mainGlobals mg) (c : He.SaysD fa fn K) (xs : XS K xl) : OkF P w K mg base CX0 1 (He.fAd K d_Wall_free.at_) ["self"] (sp_Wall_free K) := by
  obtain ⟨fd, F⟩ := c.def_ 7 (d := d_Wall_free) rfl
  have nd := sc_Wall_free.nd
  refine ⟨fd, F.ok sc_Wall_free (len_Wall_free (K := K)) (fun cdv A outer s H vs Q E hr hsp => ⟨t_Wall_free K E, PSs.nox ?_, pure_Wall_free (tW c) vs H Q E hsp⟩), F.bindsN (fun _ _ _ _ _ _ us hl => match us, hl with | [_], _ => rfl), F.kp⟩
  exact pss_one (ps_ret (pe_lc (own := [("box", 1)]) (g := gName 1) rfl nd (pi_range1 rfl (f_range KX G c) (pa_cons (pe_callB call_len_seq (by rfl) (f_len KX G c) (by decide +kernel) (pa_cons (pe_fld (pv 0) rfl) pa_nil)) pa_nil)) (blkOk_by (N := ["self", "box"]) (sc := defScope s_Wall_free) (by decide +kernel)) (fun _ _ _ _ _ => pg_name (i := 1) nd rfl (Or.inl rfl)) (fun _ _ _ _ _ => pts_one (pt_cmpR op_isN (pe_ix ix_list (pe_fld (pv 0) rfl) (pv 1) (fun _ _ => rfl)) (pe_non) (nomark _))) (fun _ _ _ _ _ => pv 1)))
theorem sc_Wall_come : FnScope ["self", "size", "nights", "box"] ["self", "size", "nights"] (defScope s_Wall_come) := ⟨rfl, rfl, rfl, by decide +kernel, rfl, by decide +kernel, by decide +kernel⟩
theorem ok_Wall_come {P : Program} {w : World} {base : Heap} {h : Heap} {mg : Str → Option Value} {K : PySem.W.Frag} (KX : K.In h) (G : h.Ns mainGlobals mg) (c : He.SaysD fa fn K) (xs : XS K xl) : OkF P w K mg base (L2.CX P w) 2 (He.fAd K d_Wall_come.at_) ["self", "size", "nights"] (sp_Wall_come K) := by
  obtain ⟨fd, F⟩ := c.def_ 8 (d := d_Wall_come) rfl
  obtain ⟨fd_least_box, G_least_box, b_least_box, k_least_box⟩ := ok_least_box (P := P) (w := w) (base := base) KX G c xs
  obtain ⟨fd_Wall_free, G_Wall_free, b_Wall_free, k_Wall_free⟩ := ok_Wall_free (P := P) (w := w) (base := base) KX G c xs
  obtain ⟨fd_is_size, G_is_size, b_is_size, k_is_size⟩ := ok_is_size (P := P) (w := w) (base := base) KX G c xs
  have nd := sc_Wall_come.nd
  refine ⟨fd, F.ok sc_Wall_come (len_Wall_come (K := K)) (fun cdv A outer s H vs Q E hr hsp => ⟨t_Wall_come K E, id ?_, pure_Wall_come (tW c) vs H Q E hsp⟩), F.bindsN (fun _ _ _ _ _ _ us hl => match us, hl with | [_, _, _], _ => rfl), F.kp⟩
  exact pss_cons (ps_if (pt_not (pt_val (pe_call G_is_size (hr.mono (by decide : 1 ≤ 1)) rfl (g_is_size KX G c) k_is_size b_is_size .nil pass0 (pa_cons (pv 1) pa_nil))))
        (pss_one (ps_raise rfl (takes_of rfl rfl rfl rfl) (pmk_own PySem.F.excBase_ValueError (x_NoSize c).1 (g_NoSize KX G c) (x_NoSize c).2.1 (raises_own (x_NoSize c).2.2.1 (x_NoSize c).2.2.2) (by exact rfl))))
        (pss_nil))
      (pss_cons (ps_if (PW.pt (pw_or (pt_cmpR op_lt (pv 2) (pe_int) (nomark _)) (pw_or1 (pt_cmpR op_gt (pv 2) (pe_glob rfl (c_MOST_SIZE KX G c).choose_spec ⟨_, rfl⟩) (nomark _)))))
        (pss_one (ps_raise rfl (takes_of rfl rfl rfl rfl) (pmk_own PySem.F.excBase_ValueError (x_NoNights c).1 (g_NoNights KX G c) (x_NoNights c).2.1 (raises_own (x_NoNights c).2.2.1 (x_NoNights c).2.2.2) (by exact rfl))))
        (pss_nil))
      (pss_cons (ps_set (i := 3) nd rfl (Or.inl rfl) (pe_call G_least_box (hr.mono (by decide : 1 ≤ 1)) rfl (g_least_box KX G c) k_least_box b_least_box .nil pass0 (pa_cons (pe_fld (pv 0) rfl) (pa_cons (pe_meth0 (pv 0) (clW c) (m_Wall_free c) G_Wall_free (hr.mono (by decide : 1 ≤ 1)) b_Wall_free .nil pass0 ) (pa_cons (pv 1) pa_nil)))))
      (pss_cons (ps_if (pt_cmpR op_isN (pv 3) (pe_non) (nomark _))
        (pss_one (ps_raise rfl (takes_of rfl rfl rfl rfl) (pmk_own PySem.F.excBase_ValueError (x_NoBox c).1 (g_NoBox KX G c) (x_NoBox c).2.1 (raises_own (x_NoBox c).2.2.1 (x_NoBox c).2.2.2) (by exact rfl))))
        (pss_nil))
      (pss_cons (ps_expr (pe_bm PySem.F.plainAttrs_list PySem.F.slot_list_append PySem.F.type_list_append mt_append (pe_fld (pv 0) rfl) (pa_cons (pe_tup (pa_cons (pv 1) (pa_cons (pe_op op_add (pe_fld (pv 0) rfl) (pv 2)) pa_nil))) pa_nil)))
      (pss_cons (ps_asg (pe_op op_sub (pe_callB call_len_seq (by rfl) (f_len KX G c) (by decide +kernel) (pa_cons (pe_fld (pv 0) rfl) pa_nil)) (pe_int)) (pg_sub (pe_fld (pv 0) rfl) (pv 3) set_list))
      (pss_one (ps_ret (pe_op op_sub (pe_callB call_len_seq (by rfl) (f_len KX G c) (by decide +kernel) (pa_cons (pe_fld (pv 0) rfl) pa_nil)) (pe_int)))))))))
theorem sc_Wall_see : FnScope ["self", "parcel"] ["self", "parcel"] (defScope s_Wall_see) := ⟨rfl, rfl, rfl, by decide +kernel, rfl, by decide +kernel, by decide +kernel⟩
theorem ok_Wall_see {P : Program} {w : World} {base : Heap} {h : Heap} {mg : Str → Option Value} {K : PySem.W.Frag} (KX : K.In h) (G : h.Ns mainGlobals mg) (c : He.SaysD fa fn K) (xs : XS K xl) : OkF P w K mg base (L2.CX P w) 1 (He.fAd K d_Wall_see.at_) ["self", "parcel"] (sp_Wall_see K) := by
  obtain ⟨fd, F⟩ := c.def_ 9 (d := d_Wall_see) rfl
  have nd := sc_Wall_see.nd
  refine ⟨fd, F.ok sc_Wall_see (len_Wall_see (K := K)) (fun cdv A outer s H vs Q E hr hsp => ⟨t_Wall_see K E, id ?_, pure_Wall_see (tW c) vs H Q E hsp⟩), F.bindsN (fun _ _ _ _ _ _ us hl => match us, hl with | [_, _], _ => rfl), F.kp⟩
  exact pss_one (ps_if (PW.pt (pw_or (pt_cmpR op_isN (pv 1) (pe_non) (nomark _)) (pw_or1 (pt_cmpR op_notInN (pv 1) (pe_fld (pv 0) rfl) (by rfl)))))
        (pss_one (ps_raise rfl (takes_of rfl rfl rfl rfl) (pmk_own PySem.F.excBase_ValueError (x_NoParcel c).1 (g_NoParcel KX G c) (x_NoParcel c).2.1 (raises_own (x_NoParcel c).2.2.1 (x_NoParcel c).2.2.2) (by exact rfl))))
        (pss_nil))
theorem sc_Wall_fetch : FnScope ["self", "parcel", "box"] ["self", "parcel"] (defScope s_Wall_fetch) := ⟨rfl, rfl, rfl, by decide +kernel, rfl, by decide +kernel, by decide +kernel⟩
theorem ok_Wall_fetch {P : Program} {w : World} {base : Heap} {h : Heap} {mg : Str → Option Value} {K : PySem.W.Frag} (KX : K.In h) (G : h.Ns mainGlobals mg) (c : He.SaysD fa fn K) (xs : XS K xl) : OkF P w K mg base (L2.CX P w) 2 (He.fAd K d_Wall_fetch.at_) ["self", "parcel"] (sp_Wall_fetch K) := by
  obtain ⟨fd, F⟩ := c.def_ 10 (d := d_Wall_fetch) rfl
  obtain ⟨fd_Wall_see, G_Wall_see, b_Wall_see, k_Wall_see⟩ := ok_Wall_see (P := P) (w := w) (base := base) KX G c xs
  have nd := sc_Wall_fetch.nd
  refine ⟨fd, F.ok sc_Wall_fetch (len_Wall_fetch (K := K)) (fun cdv A outer s H vs Q E hr hsp => ⟨t_Wall_fetch K E, id ?_, pure_Wall_fetch (tW c) vs H Q E hsp⟩), F.bindsN (fun _ _ _ _ _ _ us hl => match us, hl with | [_, _], _ => rfl), F.kp⟩
  exact pss_cons (ps_expr (pe_meth (pv 0) (clW c) (m_Wall_see c) G_Wall_see (hr.mono (by decide : 1 ≤ 1)) b_Wall_see .nil (passes_call (takes_of rfl rfl rfl rfl) (fun _ _ _ _ h => h)) (pa_cons (pv 1) pa_nil)))
      (pss_cons (ps_set (i := 2) nd rfl (Or.inl rfl) (pe_bm PySem.F.plainAttrs_list PySem.F.slot_list_index PySem.F.type_list_index mt_index (pe_fld (pv 0) rfl) (pa_cons (pv 1) pa_nil)))
      (pss_cons (ps_asg (pe_non) (pg_sub (pe_fld (pv 0) rfl) (pv 2) set_list))
      (pss_one (ps_ret (pv 2)))))
theorem sc_done : FnScope ["wall", "deed"] ["wall", "deed"] (defScope s_done) := ⟨rfl, rfl, rfl, by decide +kernel, rfl, by decide +kernel, by decide +kernel⟩
theorem ok_done {P : Program} {w : World} {base : Heap} {h : Heap} {mg : Str → Option Value} {K : PySem.W.Frag} (KX : K.In h) (G : h.Ns mainGlobals mg) (c : He.SaysD fa fn K) (xs : XS K xl) : OkF P w K mg base CX0 3 (He.fAd K d_done.at_) ["wall", "deed"] (sp_done K) := by
  obtain ⟨fd, F⟩ := c.def_ 11 (d := d_done) rfl
  obtain ⟨fd_Wall_night, G_Wall_night, b_Wall_night, k_Wall_night⟩ := ok_Wall_night (P := P) (w := w) (base := base) KX G c xs
  obtain ⟨fd_Wall_fetch, G_Wall_fetch, b_Wall_fetch, k_Wall_fetch⟩ := ok_Wall_fetch (P := P) (w := w) (base := base) KX G c xs
  obtain ⟨fd_Wall_come, G_Wall_come, b_Wall_come, k_Wall_come⟩ := ok_Wall_come (P := P) (w := w) (base := base) KX G c xs
  have nd := sc_done.nd
  refine ⟨fd, F.ok sc_done (len_done (K := K)) (fun cdv A outer s H vs Q E hr hsp => ⟨t_done K E, PSs.nox ?_, pure_done xs (by decide +kernel) vs H Q E hsp⟩), F.bindsN (fun _ _ _ _ _ _ us hl => match us, hl with | [_, _], _ => rfl), F.kp⟩
  exact pss_one (ps_try_many (tb := fun W => tSeq (tIfS (tTest (tOp rEq (tOp (rIxT K) (tVar 1) (tC (.int 0))) (tC (.str "come")))) (tRet (tMethS (He.ga K "Wall") "come" (sp_Wall_come K) (WE W) (tVar 0) (tCons (tOp (rIxT K) (tVar 1) (tC (.int 1))) (tCons (tOp (rIxT K) (tVar 1) (tC (.int 2))) tNil)))) (tNext))
    (tSeq (tIfS (tTest (tOp rEq (tOp (rIxT K) (tVar 1) (tC (.int 0))) (tC (.str "fetch")))) (tRet (tMethS (He.ga K "Wall") "fetch" (sp_Wall_fetch K) (WE W) (tVar 0) (tCons (tOp (rIxT K) (tVar 1) (tC (.int 1))) tNil))) (tNext))
    (tRet (tMeth (He.ga K "Wall") "night" (sp_Wall_night K) [] E0 (tVar 0) tNil)))) (l := [((.ref (He.ga K "NoSize")), fun a cls d => tRet (tC (.str "NoSize"))), ((.ref (He.ga K "NoNights")), fun a cls d => tRet (tC (.str "NoNights"))), ((.ref (He.ga K "NoBox")), fun a cls d => tRet (tC (.str "NoBox"))), ((.ref (He.ga K "NoParcel")), fun a cls d => tRet (tC (.str "NoParcel")))]) (Wout := wNone) rfl rfl takes0 (fun W pn xe tk hpo => pss_cons (ps_if (pt_cmpR op_eq (pe_ix ix_tup (pv 1) (pe_int) (fun _ _ => rfl)) (pe_str) (nomark _))
        (pss_one (ps_ret (pe_methS (pv 0) (clW c) (m_Wall_come c) G_Wall_come (hr.mono (by decide : 2 ≤ 2)) b_Wall_come (fun σ => passAt tk σ) (pa_cons (pe_ix ix_tup (pv 1) (pe_int) (fun _ _ => rfl)) (pa_cons (pe_ix ix_tup (pv 1) (pe_int) (fun _ _ => rfl)) pa_nil)))))
        (pss_nil))
      (pss_cons (ps_if (pt_cmpR op_eq (pe_ix ix_tup (pv 1) (pe_int) (fun _ _ => rfl)) (pe_str) (nomark _))
        (pss_one (ps_ret (pe_methS (pv 0) (clW c) (m_Wall_fetch c) G_Wall_fetch (hr.mono (by decide : 2 ≤ 2)) b_Wall_fetch (fun σ => passAt tk σ) (pa_cons (pe_ix ix_tup (pv 1) (pe_int) (fun _ _ => rfl)) pa_nil))))
        (pss_nil))
      (pss_one (ps_ret (pe_meth0 (pv 0) (clW c) (m_Wall_night c) G_Wall_night (hr.mono (by decide : 1 ≤ 2)) b_Wall_night .nil pass0 ))))) (.cons ⟨rfl, by decide, .inl (g_NoSize KX G c)⟩ (fun a oe cls d pn hz hf => pss_one (ps_ret (pe_str))) (.cons ⟨rfl, by decide, .inl (g_NoNights KX G c)⟩ (fun a oe cls d pn hz hf => pss_one (ps_ret (pe_str))) (.cons ⟨rfl, by decide, .inl (g_NoBox KX G c)⟩ (fun a oe cls d pn hz hf => pss_one (ps_ret (pe_str))) (.cons ⟨rfl, by decide, .inl (g_NoParcel KX G c)⟩ (fun a oe cls d pn hz hf => pss_one (ps_ret (pe_str))) .nil)))))
theorem sc_Wall_held : FnScope ["self"] ["self"] (defScope s_Wall_held) := ⟨rfl, rfl, rfl, by decide +kernel, rfl, by decide +kernel, by decide +kernel⟩
theorem ok_Wall_held {P : Program} {w : World} {base : Heap} {h : Heap} {mg : Str → Option Value} {K : PySem.W.Frag} (KX : K.In h) (G : h.Ns mainGlobals mg) (c : He.SaysD fa fn K) (xs : XS K xl) : OkF P w K mg base CX0 1 (He.fAd K d_Wall_held.at_) ["self"] (sp_Wall_held K) := by
  obtain ⟨fd, F⟩ := c.def_ 12 (d := d_Wall_held) rfl
  have nd := sc_Wall_held.nd
  refine ⟨fd, F.ok sc_Wall_held (len_Wall_held (K := K)) (fun cdv A outer s H vs Q E hr hsp => ⟨t_Wall_held K E, PSs.nox ?_, pure_Wall_held (tW c) vs H Q E hsp⟩), F.bindsN (fun _ _ _ _ _ _ us hl => match us, hl with | [_], _ => rfl), F.kp⟩
  exact pss_one (ps_ret (pe_callTy call_list_of (by rfl) (f_list KX G c) (by decide +kernel) (pa_cons (pe_fld (pv 0) rfl) pa_nil)))
theorem sc_replay : FnScope ["sizes", "deeds", "wall", "answers", "deed"] ["sizes", "deeds"] (defScope s_replay) := ⟨rfl, rfl, rfl, by decide +kernel, rfl, by decide +kernel, by decide +kernel⟩
theorem ok_replay {P : Program} {w : World} {base : Heap} {h : Heap} {mg : Str → Option Value} {K : PySem.W.Frag} (KX : K.In h) (G : h.Ns mainGlobals mg) (c : He.SaysD fa fn K) (xs : XS K xl) : OkF P w K mg base (L2.CX P w) 4 (He.fAd K d_replay.at_) ["sizes", "deeds"] (sp_replay K) := by
  obtain ⟨fd, F⟩ := c.def_ 13 (d := d_replay) rfl
  obtain ⟨fd_Wall_held, G_Wall_held, b_Wall_held, k_Wall_held⟩ := ok_Wall_held (P := P) (w := w) (base := base) KX G c xs
  obtain ⟨fd_done, G_done, b_done, k_done⟩ := ok_done (P := P) (w := w) (base := base) KX G c xs
  obtain ⟨fd_Wall_init, G_Wall_init, b_Wall_init, k_Wall_init⟩ := ok_Wall_init (P := P) (w := w) (base := base) KX G c xs
  have nd := sc_replay.nd
  refine ⟨fd, F.ok sc_replay (len_replay (K := K)) (fun cdv A outer s H vs Q E hr hsp => ⟨t_replay K E, id ?_, pure_replay (tW c) vs H Q E hsp⟩), F.bindsN (fun _ _ _ _ _ _ us hl => match us, hl with | [_, _], _ => rfl), F.kp⟩
  exact pss_cons (ps_set (i := 2) nd rfl (Or.inr rfl) (pe_make (mkW c) G_Wall_init (hr.mono (by decide : 3 ≤ 3)) rfl (g_Wall KX G c) b_Wall_init .nil (passes_call (takes_of rfl rfl rfl rfl) (fun _ _ _ _ h => h)) (pa_cons (pv 0) pa_nil)))
      (pss_cons (ps_setLc (i := 3) (own := [("deed", 4)]) (g := gName 4) rfl nd rfl rfl (sw_true rfl rfl rfl (by decide +kernel)) (pi_list (pv 1)) (blkOk_by (N := ["sizes", "deeds", "wall", "answers", "deed"]) (sc := defScope s_replay) (by decide +kernel)) (fun _ _ _ _ _ => pg_name (i := 4) nd rfl (Or.inl rfl)) (fun _ _ _ _ _ => pts_nil) (fun _ _ _ _ _ => pe_call G_done (hr.mono (by decide : 3 ≤ 3)) rfl (g_done KX G c) k_done b_done .nil pass0 (pa_cons (pv 2) (pa_cons (pv 4) pa_nil))))
      (pss_one (ps_ret (pe_tup (pa_cons (pv 3) (pa_cons (pe_meth0 (pv 2) (clW c) (m_Wall_held c) G_Wall_held (hr.mono (by decide : 1 ≤ 3)) b_Wall_held .nil pass0 ) pa_nil))))))
theorem sc_law_refused : FnScope ["sizes", "deeds", "e"] ["sizes", "deeds"] (defScope s_law_refused) := ⟨rfl, rfl, rfl, by decide +kernel, rfl, by decide +kernel, by decide +kernel⟩
theorem ok_law_refused {P : Program} {w : World} {base : Heap} {h : Heap} {mg : Str → Option Value} {K : PySem.W.Frag} (KX : K.In h) (G : h.Ns mainGlobals mg) (c : He.SaysD fa fn K) (xs : XS K xl) : OkF P w K mg base CX0 5 (He.fAd K d_law_refused.at_) ["sizes", "deeds"] (sp_law_refused K) := by
  obtain ⟨fd, F⟩ := c.def_ 14 (d := d_law_refused) rfl
  obtain ⟨fd_replay, G_replay, b_replay, k_replay⟩ := ok_replay (P := P) (w := w) (base := base) KX G c xs
  have nd := sc_law_refused.nd
  refine ⟨fd, F.ok sc_law_refused (len_law_refused (K := K)) (fun cdv A outer s H vs Q E hr hsp => ⟨t_law_refused K E, PSs.nox ?_, pure_law_refused xs (by decide +kernel) vs H Q E hsp⟩), F.bindsN (fun _ _ _ _ _ _ us hl => match us, hl with | [_, _], _ => rfl), F.kp⟩
  exact pss_cons (ps_try_as (i := 2) (tb := fun W => tDrop (tCallS (sp_replay K) (WE W) (tCons (tVar 0) (tCons (tVar 1) tNil)))) (ts := fun a cls d => tRet (tCB (rIsX K cls d a) (tCons (tVar 2) (tCons (tC (.ref (He.ga K "WallError"))) tNil)))) (Wout := wNone) rfl rfl nd rfl rfl ⟨rfl, by decide, .inl (g_NoWall KX G c)⟩ takes0 (fun W pn xe tk hpo => pss_one (ps_expr (pe_callS G_replay (hr.mono (by decide : 4 ≤ 4)) rfl (g_replay KX G c) k_replay b_replay (fun σ => passAt tk σ) (pa_cons (pv 0) (pa_cons (pv 1) pa_nil))))) (fun a oe cls d pn hz hf => pss_one (ps_ret (pe_callB (call_isX hz hf) (by rfl) (f_isinstance KX G c) (by decide +kernel) (pa_cons (pv 2) (pa_cons (pe_glob rfl (g_WallError KX G c) rfl) pa_nil))))))
      (pss_one (ps_ret (pe_bl)))
theorem sc_law_box_for : FnScope ["sizes", "held", "size", "some", "box"] ["sizes", "held", "size"] (defScope s_law_box_for) := ⟨rfl, rfl, rfl, by decide +kernel, rfl, by decide +kernel, by decide +kernel⟩
theorem ok_law_box_for {P : Program} {w : World} {base : Heap} {h : Heap} {mg : Str → Option Value} {K : PySem.W.Frag} (KX : K.In h) (G : h.Ns mainGlobals mg) (c : He.SaysD fa fn K) (xs : XS K xl) : OkF P w K mg base CX0 1 (He.fAd K d_law_box_for.at_) ["sizes", "held", "size"] (sp_law_box_for K) := by
  obtain ⟨fd, F⟩ := c.def_ 15 (d := d_law_box_for) rfl
  have nd := sc_law_box_for.nd
  refine ⟨fd, F.ok sc_law_box_for (len_law_box_for (K := K)) (fun cdv A outer s H vs Q E hr hsp => ⟨t_law_box_for K E, PSs.nox ?_, pure_law_box_for vs H Q E hsp⟩), F.bindsN (fun _ _ _ _ _ _ us hl => match us, hl with | [_, _, _], _ => rfl), F.kp⟩
  exact pss_cons (ps_set (i := 3) nd rfl (Or.inl rfl) (pe_callB cr_sortPO (by rfl) (f_sorted KX G c) (by decide +kernel) (pa_cons (pe_lc (own := [("box", 4)]) (g := gName 4) rfl nd (pi_range1 rfl (f_range KX G c) (pa_cons (pe_callB call_len_seq (by rfl) (f_len KX G c) (by decide +kernel) (pa_cons (pv 0) pa_nil)) pa_nil)) (blkOk_by (N := ["sizes", "held", "size", "some", "box"]) (sc := defScope s_law_box_for) (by decide +kernel)) (fun _ _ _ _ _ => pg_name (i := 4) nd rfl (Or.inl rfl)) (fun _ _ _ _ _ => pts_one (PW.pt (pw_and (pt_cmpR op_isN (pe_ix ix_list (pv 1) (pv 4) (fun _ _ => rfl)) (pe_non) (nomark _)) (pw_and1 (pt_cmpR op_ge (pe_ix ix_list (pv 0) (pv 4) (fun _ _ => rfl)) (pv 2) (nomark _)))))) (fun _ _ _ _ _ => pe_tup (pa_cons (pe_ix ix_list (pv 0) (pv 4) (fun _ _ => rfl)) (pa_cons (pv 4) pa_nil)))) pa_nil)))
      (pss_cons (ps_if (pt_cmpR op_eq (pe_callB call_len_seq (by rfl) (f_len KX G c) (by decide +kernel) (pa_cons (pv 3) pa_nil)) (pe_int) (nomark _))
        (pss_one (ps_ret (pe_non)))
        (pss_nil))
      (pss_one (ps_ret (pe_ix ix_tup (pe_ix ix_list (pv 3) (pe_int) (fun _ _ => rfl)) (pe_int) (fun _ _ => rfl)))))
theorem sc_law_due : FnScope ["sizes", "state", "deed", "held", "parcels", "back", "box", "p"] ["sizes", "state", "deed"] (defScope s_law_due) := ⟨rfl, rfl, rfl, by decide +kernel, rfl, by decide +kernel, by decide +kernel⟩
theorem ok_law_due {P : Program} {w : World} {base : Heap} {h : Heap} {mg : Str → Option Value} {K : PySem.W.Frag} (KX : K.In h) (G : h.Ns mainGlobals mg) (c : He.SaysD fa fn K) (xs : XS K xl) : OkF P w K mg base CX0 2 (He.fAd K d_law_due.at_) ["sizes", "state", "deed"] (sp_law_due K) := by
  obtain ⟨fd, F⟩ := c.def_ 16 (d := d_law_due) rfl
  obtain ⟨fd_law_box_for, G_law_box_for, b_law_box_for, k_law_box_for⟩ := ok_law_box_for (P := P) (w := w) (base := base) KX G c xs
  have nd := sc_law_due.nd
  refine ⟨fd, F.ok sc_law_due (len_law_due (K := K)) (fun cdv A outer s H vs Q E hr hsp => ⟨t_law_due K E, PSs.nox ?_, pure_law_due vs H Q E hsp⟩), F.bindsN (fun _ _ _ _ _ _ us hl => match us, hl with | [_, _, _], _ => rfl), F.kp⟩
  exact pss_cons (ps_set (i := 3) nd rfl (Or.inl rfl) (pe_ix ix_list (pv 1) (pe_int) (fun _ _ => rfl)))
      (pss_cons (ps_set (i := 4) nd rfl (Or.inr rfl) (pe_ix ix_list (pv 1) (pe_int) (fun _ _ => rfl)))
      (pss_cons (ps_if (pt_cmpR op_eq (pe_ix ix_tup (pv 2) (pe_int) (fun _ _ => rfl)) (pe_str) (nomark _))
        (pss_cons (ps_asg (pe_op op_add (pe_ix ix_list (pv 1) (pe_int) (fun _ _ => rfl)) (pe_int)) (pg_sub (pv 1) (pe_int) set_list))
      (pss_cons (ps_setLc (i := 5) (own := [("p", 7)]) (g := gName 7) rfl nd rfl rfl (sw_true rfl rfl rfl (by decide +kernel)) (pi_list (pv 3)) (blkOk_by (N := ["sizes", "state", "deed", "held", "parcels", "back", "box", "p"]) (sc := defScope s_law_due) (by decide +kernel)) (fun _ _ _ _ _ => pg_name (i := 7) nd rfl (Or.inl rfl)) (fun _ _ _ _ _ => pts_one (PW.pt (pw_and (pt_cmpR op_notN (pv 7) (pe_non) (nomark _)) (pw_and1 (pt_cmpR op_le (pe_ix ix_tup (pe_ix ix_list (pv 4) (pv 7) (fun _ _ => rfl)) (pe_int) (fun _ _ => rfl)) (pe_ix ix_list (pv 1) (pe_int) (fun _ _ => rfl)) (nomark _)))))) (fun _ _ _ _ _ => pv 7))
      (pss_cons (ps_forP (PassesOwn.never) rfl (pi_range1 rfl (f_range KX G c) (pa_cons (pe_callB call_len_seq (by rfl) (f_len KX G c) (by decide +kernel) (pa_cons (pv 3) pa_nil)) pa_nil)) (pg_name (i := 6) nd rfl (Or.inl rfl))
        (pss_one (ps_if (pt_cmpR op_inY (pe_ix ix_list (pv 3) (pv 6) (fun _ _ => rfl)) (pv 5) (by rfl))
        (pss_one (ps_asg (pe_non) (pg_sub (pv 3) (pv 6) set_list)))
        (pss_nil))))
      (pss_one (ps_ret (pe_callB cr_sortedI (by rfl) (f_sorted KX G c) (by decide +kernel) (pa_cons (pv 5) pa_nil)))))))
        (pss_nil))
      (pss_cons (ps_if (pt_cmpR op_eq (pe_ix ix_tup (pv 2) (pe_int) (fun _ _ => rfl)) (pe_str) (nomark _))
        (pss_cons (ps_if (pt_cmpR op_notInN (pe_ix ix_tup (pv 2) (pe_int) (fun _ _ => rfl)) (pv 3) (by rfl))
        (pss_one (ps_ret (pe_str)))
        (pss_nil))
      (pss_cons (ps_set (i := 6) nd rfl (Or.inl rfl) (pe_bm PySem.F.plainAttrs_list PySem.F.slot_list_index PySem.F.type_list_index mt_index (pv 3) (pa_cons (pe_ix ix_tup (pv 2) (pe_int) (fun _ _ => rfl)) pa_nil)))
      (pss_cons (ps_asg (pe_non) (pg_sub (pv 3) (pv 6) set_list))
      (pss_one (ps_ret (pv 6))))))
        (pss_nil))
      (pss_cons (ps_if (PW.pt (pw_or (pt_cmpR op_lt (pe_ix ix_tup (pv 2) (pe_int) (fun _ _ => rfl)) (pe_int) (nomark _)) (pw_or1 (pt_cmpR op_gt (pe_ix ix_tup (pv 2) (pe_int) (fun _ _ => rfl)) (pe_int) (nomark _)))))
        (pss_one (ps_ret (pe_str)))
        (pss_nil))
      (pss_cons (ps_if (PW.pt (pw_or (pt_cmpR op_lt (pe_ix ix_tup (pv 2) (pe_int) (fun _ _ => rfl)) (pe_int) (nomark _)) (pw_or1 (pt_cmpR op_gt (pe_ix ix_tup (pv 2) (pe_int) (fun _ _ => rfl)) (pe_int) (nomark _)))))
        (pss_one (ps_ret (pe_str)))
        (pss_nil))
      (pss_cons (ps_set (i := 6) nd rfl (Or.inl rfl) (pe_call G_law_box_for (hr.mono (by decide : 1 ≤ 1)) rfl (g_law_box_for KX G c) k_law_box_for b_law_box_for .nil pass0 (pa_cons (pv 0) (pa_cons (pv 3) (pa_cons (pe_ix ix_tup (pv 2) (pe_int) (fun _ _ => rfl)) pa_nil)))))
      (pss_cons (ps_if (pt_cmpR op_isN (pv 6) (pe_non) (nomark _))
        (pss_one (ps_ret (pe_str)))
        (pss_nil))
      (pss_cons (ps_asg (pe_callB call_len_seq (by rfl) (f_len KX G c) (by decide +kernel) (pa_cons (pv 4) pa_nil)) (pg_sub (pv 3) (pv 6) set_list))
      (pss_cons (ps_expr (pe_bm PySem.F.plainAttrs_list PySem.F.slot_list_append PySem.F.type_list_append mt_append (pv 4) (pa_cons (pe_tup (pa_cons (pe_ix ix_tup (pv 2) (pe_int) (fun _ _ => rfl)) (pa_cons (pe_op op_add (pe_ix ix_list (pv 1) (pe_int) (fun _ _ => rfl)) (pe_ix ix_tup (pv 2) (pe_int) (fun _ _ => rfl))) pa_nil))) pa_nil)))
      (pss_one (ps_ret (pe_ix ix_list (pv 3) (pv 6) (fun _ _ => rfl)))))))))))))
theorem sc_law_whole : FnScope ["found"] ["found"] (defScope s_law_whole) := ⟨rfl, rfl, rfl, by decide +kernel, rfl, by decide +kernel, by decide +kernel⟩
theorem ok_law_whole {P : Program} {w : World} {base : Heap} {h : Heap} {mg : Str → Option Value} {K : PySem.W.Frag} (KX : K.In h) (G : h.Ns mainGlobals mg) (c : He.SaysD fa fn K) (xs : XS K xl) : OkF P w K mg base CX0 1 (He.fAd K d_law_whole.at_) ["found"] (sp_law_whole K) := by
  obtain ⟨fd, F⟩ := c.def_ 17 (d := d_law_whole) rfl
  have nd := sc_law_whole.nd
  refine ⟨fd, F.ok sc_law_whole (len_law_whole (K := K)) (fun cdv A outer s H vs Q E hr hsp => ⟨t_law_whole K E, PSs.nox ?_, pure_law_whole vs H Q E hsp⟩), F.bindsN (fun _ _ _ _ _ _ us hl => match us, hl with | [_], _ => rfl), F.kp⟩
  exact pss_one (ps_ret (pe_and (pe_callB call_isi (by rfl) (f_isinstance KX G c) (by decide +kernel) (pa_cons (pv 0) (pa_cons (pe_bltn (by rfl) (f_int KX G c) (by decide +kernel) rfl) pa_nil))) (pe_one (pe_not (pe_callB call_isi (by rfl) (f_isinstance KX G c) (by decide +kernel) (pa_cons (pv 0) (pa_cons (pe_bltn (by rfl) (f_bool KX G c) (by decide +kernel) rfl) pa_nil)))))))
theorem sc_law_row : FnScope ["found", "due", "k"] ["found", "due"] (defScope s_law_row) := ⟨rfl, rfl, rfl, by decide +kernel, rfl, by decide +kernel, by decide +kernel⟩
theorem ok_law_row {P : Program} {w : World} {base : Heap} {h : Heap} {mg : Str → Option Value} {K : PySem.W.Frag} (KX : K.In h) (G : h.Ns mainGlobals mg) (c : He.SaysD fa fn K) (xs : XS K xl) : OkF P w K mg base CX0 2 (He.fAd K d_law_row.at_) ["found", "due"] (sp_law_row K) := by
  obtain ⟨fd, F⟩ := c.def_ 18 (d := d_law_row) rfl
  obtain ⟨fd_law_whole, G_law_whole, b_law_whole, k_law_whole⟩ := ok_law_whole (P := P) (w := w) (base := base) KX G c xs
  have nd := sc_law_row.nd
  refine ⟨fd, F.ok sc_law_row (len_law_row (K := K)) (fun cdv A outer s H vs Q E hr hsp => ⟨t_law_row K E, PSs.nox ?_, pure_law_row vs H Q E hsp⟩), F.bindsN (fun _ _ _ _ _ _ us hl => match us, hl with | [_, _], _ => rfl), F.kp⟩
  exact pss_cons (ps_if (PW.pt (pw_or (pt_not (pt_val (pe_callB call_isi (by rfl) (f_isinstance KX G c) (by decide +kernel) (pa_cons (pv 0) (pa_cons (pe_bltn (by rfl) (f_list KX G c) (by decide +kernel) rfl) pa_nil))))) (pw_or1 (pt_cmpR op_ne (pe_callB call_len_seq (by rfl) (f_len KX G c) (by decide +kernel) (pa_cons (pv 0) pa_nil)) (pe_callB call_len_seq (by rfl) (f_len KX G c) (by decide +kernel) (pa_cons (pv 1) pa_nil)) (nomark _)))))
        (pss_one (ps_ret (pe_bl)))
        (pss_nil))
      (pss_cons (ps_forP (PassesOwn.never) rfl (pi_range1 rfl (f_range KX G c) (pa_cons (pe_callB call_len_seq (by rfl) (f_len KX G c) (by decide +kernel) (pa_cons (pv 1) pa_nil)) pa_nil)) (pg_name (i := 2) nd rfl (Or.inl rfl))
        (pss_one (ps_if (PW.pt (pw_or (pt_not (pt_val (pe_call G_law_whole (hr.mono (by decide : 1 ≤ 1)) rfl (g_law_whole KX G c) k_law_whole b_law_whole .nil pass0 (pa_cons (pe_ix ix_list (pv 0) (pv 2) (fun _ _ => rfl)) pa_nil)))) (pw_or1 (pt_cmpR op_ne (pe_ix ix_list (pv 0) (pv 2) (fun _ _ => rfl)) (pe_ix ix_list (pv 1) (pv 2) (fun _ _ => rfl)) (nomark _)))))
        (pss_one (ps_ret (pe_bl)))
        (pss_nil))))
      (pss_one (ps_ret (pe_bl))))
theorem sc_law_alike : FnScope ["found", "due", "k"] ["found", "due"] (defScope s_law_alike) := ⟨rfl, rfl, rfl, by decide +kernel, rfl, by decide +kernel, by decide +kernel⟩
theorem ok_law_alike {P : Program} {w : World} {base : Heap} {h : Heap} {mg : Str → Option Value} {K : PySem.W.Frag} (KX : K.In h) (G : h.Ns mainGlobals mg) (c : He.SaysD fa fn K) (xs : XS K xl) : OkF P w K mg base CX0 3 (He.fAd K d_law_alike.at_) ["found", "due"] (sp_law_alike K) := by
  obtain ⟨fd, F⟩ := c.def_ 19 (d := d_law_alike) rfl
  obtain ⟨fd_law_row, G_law_row, b_law_row, k_law_row⟩ := ok_law_row (P := P) (w := w) (base := base) KX G c xs
  obtain ⟨fd_law_whole, G_law_whole, b_law_whole, k_law_whole⟩ := ok_law_whole (P := P) (w := w) (base := base) KX G c xs
  have nd := sc_law_alike.nd
  refine ⟨fd, F.ok sc_law_alike (len_law_alike (K := K)) (fun cdv A outer s H vs Q E hr hsp => ⟨t_law_alike K E, PSs.nox ?_, pure_law_alike vs H Q E hsp⟩), F.bindsN (fun _ _ _ _ _ _ us hl => match us, hl with | [_, _], _ => rfl), F.kp⟩
  exact pss_cons (ps_if (PW.pt (pw_or (pt_not (pt_val (pe_callB call_isi (by rfl) (f_isinstance KX G c) (by decide +kernel) (pa_cons (pv 0) (pa_cons (pe_bltn (by rfl) (f_list KX G c) (by decide +kernel) rfl) pa_nil))))) (pw_or1 (pt_cmpR op_ne (pe_callB call_len_seq (by rfl) (f_len KX G c) (by decide +kernel) (pa_cons (pv 0) pa_nil)) (pe_callB call_len_seq (by rfl) (f_len KX G c) (by decide +kernel) (pa_cons (pv 1) pa_nil)) (nomark _)))))
        (pss_one (ps_ret (pe_bl)))
        (pss_nil))
      (pss_cons (ps_forP (PassesOwn.never) rfl (pi_range1 rfl (f_range KX G c) (pa_cons (pe_callB call_len_seq (by rfl) (f_len KX G c) (by decide +kernel) (pa_cons (pv 1) pa_nil)) pa_nil)) (pg_name (i := 2) nd rfl (Or.inl rfl))
        (pss_one (ps_if (pt_val (pe_callB call_isi (by rfl) (f_isinstance KX G c) (by decide +kernel) (pa_cons (pe_ix ix_list (pv 1) (pv 2) (fun _ _ => rfl)) (pa_cons (pe_bltn (by rfl) (f_list KX G c) (by decide +kernel) rfl) pa_nil))))
        (pss_one (ps_if (pt_not (pt_val (pe_call G_law_row (hr.mono (by decide : 2 ≤ 2)) rfl (g_law_row KX G c) k_law_row b_law_row .nil pass0 (pa_cons (pe_ix ix_list (pv 0) (pv 2) (fun _ _ => rfl)) (pa_cons (pe_ix ix_list (pv 1) (pv 2) (fun _ _ => rfl)) pa_nil)))))
        (pss_one (ps_ret (pe_bl)))
        (pss_nil)))
        (pss_one (ps_if (pt_val (pe_callB call_isi (by rfl) (f_isinstance KX G c) (by decide +kernel) (pa_cons (pe_ix ix_list (pv 1) (pv 2) (fun _ _ => rfl)) (pa_cons (pe_bltn (by rfl) (f_str KX G c) (by decide +kernel) rfl) pa_nil))))
        (pss_one (ps_if (PW.pt (pw_or (pt_not (pt_val (pe_callB call_isi (by rfl) (f_isinstance KX G c) (by decide +kernel) (pa_cons (pe_ix ix_list (pv 0) (pv 2) (fun _ _ => rfl)) (pa_cons (pe_bltn (by rfl) (f_str KX G c) (by decide +kernel) rfl) pa_nil))))) (pw_or1 (pt_cmpR op_ne (pe_ix ix_list (pv 0) (pv 2) (fun _ _ => rfl)) (pe_ix ix_list (pv 1) (pv 2) (fun _ _ => rfl)) (nomark _)))))
        (pss_one (ps_ret (pe_bl)))
        (pss_nil)))
        (pss_one (ps_if (PW.pt (pw_or (pt_not (pt_val (pe_call G_law_whole (hr.mono (by decide : 1 ≤ 2)) rfl (g_law_whole KX G c) k_law_whole b_law_whole .nil pass0 (pa_cons (pe_ix ix_list (pv 0) (pv 2) (fun _ _ => rfl)) pa_nil)))) (pw_or1 (pt_cmpR op_ne (pe_ix ix_list (pv 0) (pv 2) (fun _ _ => rfl)) (pe_ix ix_list (pv 1) (pv 2) (fun _ _ => rfl)) (nomark _)))))
        (pss_one (ps_ret (pe_bl)))
        (pss_nil))))))))
      (pss_one (ps_ret (pe_bl))))
theorem sc_law_held : FnScope ["found", "due", "k"] ["found", "due"] (defScope s_law_held) := ⟨rfl, rfl, rfl, by decide +kernel, rfl, by decide +kernel, by decide +kernel⟩
theorem ok_law_held {P : Program} {w : World} {base : Heap} {h : Heap} {mg : Str → Option Value} {K : PySem.W.Frag} (KX : K.In h) (G : h.Ns mainGlobals mg) (c : He.SaysD fa fn K) (xs : XS K xl) : OkF P w K mg base CX0 2 (He.fAd K d_law_held.at_) ["found", "due"] (sp_law_held K) := by
  obtain ⟨fd, F⟩ := c.def_ 20 (d := d_law_held) rfl
  obtain ⟨fd_law_whole, G_law_whole, b_law_whole, k_law_whole⟩ := ok_law_whole (P := P) (w := w) (base := base) KX G c xs
  have nd := sc_law_held.nd
  refine ⟨fd, F.ok sc_law_held (len_law_held (K := K)) (fun cdv A outer s H vs Q E hr hsp => ⟨t_law_held K E, PSs.nox ?_, pure_law_held vs H Q E hsp⟩), F.bindsN (fun _ _ _ _ _ _ us hl => match us, hl with | [_, _], _ => rfl), F.kp⟩
  exact pss_cons (ps_if (PW.pt (pw_or (pt_not (pt_val (pe_callB call_isi (by rfl) (f_isinstance KX G c) (by decide +kernel) (pa_cons (pv 0) (pa_cons (pe_bltn (by rfl) (f_list KX G c) (by decide +kernel) rfl) pa_nil))))) (pw_or1 (pt_cmpR op_ne (pe_callB call_len_seq (by rfl) (f_len KX G c) (by decide +kernel) (pa_cons (pv 0) pa_nil)) (pe_callB call_len_seq (by rfl) (f_len KX G c) (by decide +kernel) (pa_cons (pv 1) pa_nil)) (nomark _)))))
        (pss_one (ps_ret (pe_bl)))
        (pss_nil))
      (pss_cons (ps_forP (PassesOwn.never) rfl (pi_range1 rfl (f_range KX G c) (pa_cons (pe_callB call_len_seq (by rfl) (f_len KX G c) (by decide +kernel) (pa_cons (pv 1) pa_nil)) pa_nil)) (pg_name (i := 2) nd rfl (Or.inl rfl))
        (pss_one (ps_if (pt_cmpR op_isN (pe_ix ix_list (pv 1) (pv 2) (fun _ _ => rfl)) (pe_non) (nomark _))
        (pss_one (ps_if (pt_cmpR op_notN (pe_ix ix_list (pv 0) (pv 2) (fun _ _ => rfl)) (pe_non) (nomark _))
        (pss_one (ps_ret (pe_bl)))
        (pss_nil)))
        (pss_one (ps_if (PW.pt (pw_or (pt_not (pt_val (pe_call G_law_whole (hr.mono (by decide : 1 ≤ 1)) rfl (g_law_whole KX G c) k_law_whole b_law_whole .nil pass0 (pa_cons (pe_ix ix_list (pv 0) (pv 2) (fun _ _ => rfl)) pa_nil)))) (pw_or1 (pt_cmpR op_ne (pe_ix ix_list (pv 0) (pv 2) (fun _ _ => rfl)) (pe_ix ix_list (pv 1) (pv 2) (fun _ _ => rfl)) (nomark _)))))
        (pss_one (ps_ret (pe_bl)))
        (pss_nil))))))
      (pss_one (ps_ret (pe_bl))))
theorem sc_law_k12 : FnScope ["script", "sizes", "state", "deeds", "due", "k", "deed", "handed", "lap", "found", "one", "size"] ["script"] (defScope s_law_k12) := ⟨rfl, rfl, rfl, by decide +kernel, rfl, by decide +kernel, by decide +kernel⟩
theorem ok_law_k12 {P : Program} {w : World} {base : Heap} {h : Heap} {mg : Str → Option Value} {K : PySem.W.Frag} (KX : K.In h) (G : h.Ns mainGlobals mg) (c : He.SaysD fa fn K) (xs : XS K xl) {fd : FuncData} (F : FunD K d_law_k12.name d_law_k12.qual d_law_k12.params d_law_k12.body d_law_k12.scope [] [] (He.fAd K d_law_k12.at_) fd) : FnOk P w K mg base CX0 6 (He.fAd K d_law_k12.at_) fd ["script"] (sp_law_k12 K) := by
  obtain ⟨fd_law_held, G_law_held, b_law_held, k_law_held⟩ := ok_law_held (P := P) (w := w) (base := base) KX G c xs
  obtain ⟨fd_law_alike, G_law_alike, b_law_alike, k_law_alike⟩ := ok_law_alike (P := P) (w := w) (base := base) KX G c xs
  obtain ⟨fd_replay, G_replay, b_replay, k_replay⟩ := ok_replay (P := P) (w := w) (base := base) KX G c xs
  obtain ⟨fd_law_drawn, G_law_drawn, b_law_drawn, k_law_drawn⟩ := ok_law_drawn (P := P) (w := w) (base := base) KX G c xs
  obtain ⟨fd_law_refused, G_law_refused, b_law_refused, k_law_refused⟩ := ok_law_refused (P := P) (w := w) (base := base) KX G c xs
  obtain ⟨fd_law_due, G_law_due, b_law_due, k_law_due⟩ := ok_law_due (P := P) (w := w) (base := base) KX G c xs
  obtain ⟨fd_law_deed_by, G_law_deed_by, b_law_deed_by, k_law_deed_by⟩ := ok_law_deed_by (P := P) (w := w) (base := base) KX G c xs
  obtain ⟨fd_law_sizes_by, G_law_sizes_by, b_law_sizes_by, k_law_sizes_by⟩ := ok_law_sizes_by (P := P) (w := w) (base := base) KX G c xs
  have nd := sc_law_k12.nd
  refine F.ok sc_law_k12 (len_law_k12 (K := K)) (fun cdv A outer s H vs Q E hr hsp => ⟨t_law_k12 K E, PSs.nox ?_, pure_law_k12 vs H Q E hsp⟩)
  exact pss_cons (ps_set (i := 1) nd rfl (Or.inl rfl) (pe_call G_law_sizes_by (hr.mono (by decide : 2 ≤ 5)) rfl (g_law_sizes_by KX G c) k_law_sizes_by b_law_sizes_by .nil pass0 (pa_cons (pv 0) (pa_cons (pe_int) pa_nil))))
      (pss_cons (ps_set (i := 2) nd rfl (Or.inl rfl) (pe_lst (pa_cons (pe_lc (own := [("size", 11)]) (g := gName 11) rfl nd (pi_list (pv 1)) (blkOk_by (N := ["script", "sizes", "state", "deeds", "due", "k", "deed", "handed", "lap", "found", "one", "size"]) (sc := defScope s_law_k12) (by decide +kernel)) (fun _ _ _ _ _ => pg_name (i := 11) nd rfl (Or.inl rfl)) (fun _ _ _ _ _ => pts_nil) (fun _ _ _ _ _ => pe_non)) (pa_cons (pe_lst pa_nil) (pa_cons (pe_int) pa_nil)))))
      (pss_cons (ps_set (i := 3) nd rfl (Or.inl rfl) (pe_lst pa_nil))
      (pss_cons (ps_set (i := 4) nd rfl (Or.inl rfl) (pe_lst pa_nil))
      (pss_cons (ps_forP (PassesOwn.never) rfl (pi_range1 rfl (f_range KX G c) (pa_cons (pe_call G_law_drawn (hr.mono (by decide : 1 ≤ 5)) rfl (g_law_drawn KX G c) k_law_drawn b_law_drawn .nil pass0 (pa_cons (pv 0) (pa_cons (pe_int) (pa_cons (pe_ix ix_list (pe_lst (pa_cons (pe_int) (pa_cons (pe_int) pa_nil))) (pe_call G_law_drawn (hr.mono (by decide : 1 ≤ 5)) rfl (g_law_drawn KX G c) k_law_drawn b_law_drawn .nil pass0 (pa_cons (pv 0) (pa_cons (pe_int) (pa_cons (pe_int) pa_nil)))) (fun _ _ => rfl)) pa_nil)))) pa_nil)) (pg_name (i := 5) nd rfl (Or.inl rfl))
        (pss_cons (ps_set (i := 6) nd rfl (Or.inl rfl) (pe_call G_law_deed_by (hr.mono (by decide : 2 ≤ 5)) rfl (g_law_deed_by KX G c) k_law_deed_by b_law_deed_by .nil pass0 (pa_cons (pv 0) (pa_cons (pe_op op_add (pe_int) (pe_op op_mul (pe_int) (pv 5))) (pa_cons (pv 2) pa_nil)))))
      (pss_cons (ps_expr (pe_bm PySem.F.plainAttrs_list PySem.F.slot_list_append PySem.F.type_list_append mt_append (pv 3) (pa_cons (pv 6) pa_nil)))
      (pss_one (ps_expr (pe_bm PySem.F.plainAttrs_list PySem.F.slot_list_append PySem.F.type_list_append mt_append (pv 4) (pa_cons (pe_call G_law_due (hr.mono (by decide : 2 ≤ 5)) rfl (g_law_due KX G c) k_law_due b_law_due .nil pass0 (pa_cons (pv 1) (pa_cons (pv 2) (pa_cons (pv 6) pa_nil)))) pa_nil)))))))
      (pss_cons (ps_if (pt_cmpR op_eq (pe_call G_law_drawn (hr.mono (by decide : 1 ≤ 5)) rfl (g_law_drawn KX G c) k_law_drawn b_law_drawn .nil pass0 (pa_cons (pv 0) (pa_cons (pe_int) (pa_cons (pe_int) pa_nil)))) (pe_int) (nomark _))
        (pss_cons (ps_set (i := 1) nd rfl (Or.inl rfl) (pe_ix ix_list (pe_lst (pa_cons (pe_lst pa_nil) (pa_cons (pe_lst (pa_cons (pe_int) pa_nil)) (pa_cons (pe_lst (pa_cons (pe_int) pa_nil)) (pa_cons (pe_op op_rep (pe_lst (pa_cons (pe_int) pa_nil)) (pe_int)) pa_nil))))) (pe_call G_law_drawn (hr.mono (by decide : 1 ≤ 5)) rfl (g_law_drawn KX G c) k_law_drawn b_law_drawn .nil pass0 (pa_cons (pv 0) (pa_cons (pe_int) (pa_cons (pe_int) pa_nil)))) (fun _ _ => rfl)))
      (pss_one (ps_ret (pe_call G_law_refused (hr.mono (by decide : 5 ≤ 5)) rfl (g_law_refused KX G c) k_law_refused b_law_refused .nil pass0 (pa_cons (pv 1) (pa_cons (pv 3) pa_nil))))))
        (pss_nil))
      (pss_cons (ps_set (i := 7) nd rfl (Or.inl rfl) (pe_lst (pa_cons (pe_callTy call_list_of (by rfl) (f_list KX G c) (by decide +kernel) (pa_cons (pv 1) pa_nil)) (pa_cons (pe_callTy call_list_of (by rfl) (f_list KX G c) (by decide +kernel) (pa_cons (pv 3) pa_nil)) pa_nil))))
      (pss_cons (ps_forP (PassesOwn.never) rfl (pi_range1 rfl (f_range KX G c) (pa_cons (pe_int) pa_nil)) (pg_name (i := 8) nd rfl (Or.inl rfl))
        (pss_cons (ps_set (i := 9) nd rfl (Or.inl rfl) (pe_call G_replay (hr.mono (by decide : 4 ≤ 5)) rfl (g_replay KX G c) k_replay b_replay .nil passL (pa_cons (pe_ix ix_list (pv 7) (pe_int) (fun _ _ => rfl)) (pa_cons (pe_ix ix_list (pv 7) (pe_int) (fun _ _ => rfl)) pa_nil))))
      (pss_cons (ps_if (PW.pt (pw_or (pt_not (pt_val (pe_callB call_isi (by rfl) (f_isinstance KX G c) (by decide +kernel) (pa_cons (pv 9) (pa_cons (pe_bltn (by rfl) (f_tuple KX G c) (by decide +kernel) rfl) pa_nil))))) (pw_or (pt_cmpR op_ne (pe_callB call_len_seq (by rfl) (f_len KX G c) (by decide +kernel) (pa_cons (pv 9) pa_nil)) (pe_int) (nomark _)) (pw_or1 (pt_cmpR (op_neDI hr.units) (pv 7) (pe_lst (pa_cons (pv 1) (pa_cons (pv 3) pa_nil))) (nomark _))))))
        (pss_one (ps_ret (pe_bl)))
        (pss_nil))
      (pss_cons (ps_if (PW.pt (pw_or (pt_not (pt_val (pe_call G_law_alike (hr.mono (by decide : 3 ≤ 5)) rfl (g_law_alike KX G c) k_law_alike b_law_alike .nil pass0 (pa_cons (pe_ix ix_tup (pv 9) (pe_int) (fun _ _ => rfl)) (pa_cons (pv 4) pa_nil))))) (pw_or1 (pt_not (pt_val (pe_call G_law_held (hr.mono (by decide : 2 ≤ 5)) rfl (g_law_held KX G c) k_law_held b_law_held .nil pass0 (pa_cons (pe_ix ix_tup (pv 9) (pe_int) (fun _ _ => rfl)) (pa_cons (pe_ix ix_list (pv 2) (pe_int) (fun _ _ => rfl)) pa_nil))))))))
        (pss_one (ps_ret (pe_bl)))
        (pss_nil))
      (pss_cons (ps_forP (PassesOwn.never) rfl (pi_list (pe_ix ix_tup (pv 9) (pe_int) (fun _ _ => rfl))) (pg_name (i := 10) nd rfl (Or.inl rfl))
        (pss_one (ps_if (pt_val (pe_callB call_isi (by rfl) (f_isinstance KX G c) (by decide +kernel) (pa_cons (pv 10) (pa_cons (pe_bltn (by rfl) (f_list KX G c) (by decide +kernel) rfl) pa_nil))))
        (pss_one (ps_expr (pe_bm PySem.F.plainAttrs_list PySem.F.slot_list_append PySem.F.type_list_append mt_append (pv 10) (pa_cons (pe_int) pa_nil))))
        (pss_nil))))
      (pss_cons (ps_if (pt_cmpR (op_neDI hr.units) (pe_lc (own := [("one", 10)]) (g := gName 10) rfl nd (pi_list (pe_ix ix_tup (pv 9) (pe_int) (fun _ _ => rfl))) (blkOk_by (N := ["script", "sizes", "state", "deeds", "due", "k", "deed", "handed", "lap", "found", "one", "size"]) (sc := defScope s_law_k12) (by decide +kernel)) (fun _ _ _ _ _ => pg_name (i := 10) nd rfl (Or.inl rfl)) (fun _ _ _ _ _ => pts_one (pt_val (pe_callB call_isi (by rfl) (f_isinstance KX G c) (by decide +kernel) (pa_cons (pv 10) (pa_cons (pe_bltn (by rfl) (f_list KX G c) (by decide +kernel) rfl) pa_nil))))) (fun _ _ _ _ _ => pv 10)) (pe_lc (own := [("one", 10)]) (g := gName 10) rfl nd (pi_list (pv 4)) (blkOk_by (N := ["script", "sizes", "state", "deeds", "due", "k", "deed", "handed", "lap", "found", "one", "size"]) (sc := defScope s_law_k12) (by decide +kernel)) (fun _ _ _ _ _ => pg_name (i := 10) nd rfl (Or.inl rfl)) (fun _ _ _ _ _ => pts_one (pt_val (pe_callB call_isi (by rfl) (f_isinstance KX G c) (by decide +kernel) (pa_cons (pv 10) (pa_cons (pe_bltn (by rfl) (f_list KX G c) (by decide +kernel) rfl) pa_nil))))) (fun _ _ _ _ _ => pe_op op_cat (pv 10) (pe_lst (pa_cons (pe_int) pa_nil)))) (nomark _))
        (pss_one (ps_ret (pe_bl)))
        (pss_nil))
      (pss_cons (ps_expr (pe_bm0 PySem.F.plainAttrs_list PySem.F.slot_list_clear PySem.F.type_list_clear mt_clear (pe_ix ix_tup (pv 9) (pe_int) (fun _ _ => rfl))))
      (pss_one (ps_expr (pe_bm PySem.F.plainAttrs_list PySem.F.slot_list_append PySem.F.type_list_append mt_append (pe_ix ix_tup (pv 9) (pe_int) (fun _ _ => rfl)) (pa_cons (pe_int) pa_nil)))))))))))
      (pss_one (ps_ret (pe_cmpR (op_eqDI hr.units) (pv 7) (pe_lst (pa_cons (pv 1) (pa_cons (pv 3) pa_nil))) (nomark _)))))))))))
def exb (K : PySem.W.Frag) : Bool := xsB K xl
abbrev hk : PySem.W.Hook := He.hookX 4 fa fn [] [] exb
def ob (s : PySem.W.SharedT) : He.AlX := He.obsX 4 fa fn [] [] exb (HandSHeadRun.getT s)
theorem ob_eq (s : PySem.W.SharedT) : ob s = hk.obs s.abs := He.obsX_eq (HandSHeadRun.getT_eq s)
theorem run (w : World) : HandSHeadRun.RunEq R (PySem.W.view R.prog [30]) hk ob 4000 ["_wall", "__name__", "WallError", "NoWall", "NoSize", "NoNights", "NoBox", "NoParcel", "MOST_BOXES", "MOST_SIZE", "is_size", "least_box", "Wall", "done", "replay", "_law_drawn", "_law_whole", "_law_row", "_law_rows", "_law_sizes_by", "_law_held", "_law_stands", "_law_box_for", "_law_due", "_law_deed_by", "_law_refused", "_law_alike"] w := by
  intro os
  kernel_rfl
theorem facts {P : Program} {w : World} {K : PySem.W.Frag} {h : Heap} {mg : Str → Option Value} {f : Addr} (KX : K.In h) (G : h.Ns mainGlobals mg) (hfa : mg ("law" : Str) = some (.ref f)) (c : He.SaysD fa fn K) (xs : XS K xl) :
    ∃ fd : FuncData, (∀ (s : Shared) (v : Value), BindsTo s fd ⟨[v], []⟩ [("script", v)]) ∧ ∀ base : Heap, K.In base → base.Ns mainGlobals mg → FnOk P w K mg base CX0 6 f fd ["script"] (sp_law_k12 K) := by
  obtain ⟨fd, F⟩ := c.def_ 21 (d := d_law_k12) rfl
  have e := hfa.symm.trans (g_law KX G c)
  cases e
  have b := FunD.bindsA (ps := ["script"]) F fun _ _ _ _ _ _ us hl => match us, hl with | [_], _ => rfl
  exact ⟨fd, fun s v => b s [v] rfl, fun base _ _ => ok_law_k12 KX G c xs F⟩
end Pw
open PySem PySem.W PySem.Calls PyProof.Rows
theorem PySem.Challenge.cw_parcelwall_k12_logs_done_again_holds : PySem.Challenge.rw_parcelwall_k12_logs_done_again.Holds := by
  w_on; o_law
  refine HandSHeadRun.head_any (r := OpenLaw.row PySem.Challenge.rw_parcelwall_k12_logs_done_again) (q := view (OpenLaw.row PySem.Challenge.rw_parcelwall_k12_logs_done_again).prog [30]) (H := Pw.hk) (ob := Pw.ob) (M := 4000) (loose := ["_wall", "__name__", "WallError", "NoWall", "NoSize", "NoNights", "NoBox", "NoParcel", "MOST_BOXES", "MOST_SIZE", "is_size", "least_box", "Wall", "done", "replay", "_law_drawn", "_law_whole", "_law_row", "_law_rows", "_law_sizes_by", "_law_held", "_law_stands", "_law_box_for", "_law_due", "_law_deed_by", "_law_refused", "_law_alike"]) (d := HandSHeadRun.topDef (OpenLaw.row PySem.Challenge.rw_parcelwall_k12_logs_done_again).prog 30) (kwd := []) Pw.ob_eq
    (by kernel_rfl) (fun s => by kernel_rfl) Pw.run (by kernel_rfl) (by kernel_rfl) (by kernel_rfl) (by rfl) (by first | assumption | decide +kernel) (by decide +kernel) ⟨rfl, rfl, rfl, rfl, rfl, by decide +kernel⟩ ?hw ?hc
  case hw => w_witness2
  case hc =>
    refine L2.walk_ofE (l := PySem.Challenge.rw_parcelwall_k12_logs_done_again) (n := 63) (k := 6) (x := "script") (CX := L2.CX0) rfl (by decide) (by kernel_rfl) ⟨rfl, by decide, by decide⟩ ?F (fun _ _ _ _ z => z)
    intro w mg fa h Y G hmg0
    obtain ⟨K, KX, sx⟩ := Y
    have hmg : mg ("law" : PySem.Str) = some (.ref fa) := by
      have e : (HandSHeadRun.topDef (OpenLaw.row PySem.Challenge.rw_parcelwall_k12_logs_done_again).prog 30).name = ("law" : PySem.Str) := by kernel_rfl
      rw [← e]
      exact hmg0
    obtain ⟨fd, hb, hF⟩ := Pw.facts (P := (PySem.Challenge.rw_parcelwall_k12_logs_done_again).prog) (w := w) KX G hmg sx.t.d ⟨sx.more⟩
    exact ⟨K, fd, Pw.sp_law_k12 K, KX, hb, fun H a ns hl _ hS => ⟨a, ns, rfl, hS, hl, fun _ => rfl⟩, hF⟩
