import PyProof.Rows.All
import Wide.All
import OpenK.AllK
import Wide.FinOn
import KE.KStateDown
import Lean
import HandS.Wide
import HandS.TupSets
import HandS.SetFor
import HandS.DictTup
import HandS.Zip
import HandS.Flow
import HandS.Head0
import HandS.Head1
import HandS.Head2
import HandS.HeadEnd
import HandS.HeadHook1
import HandS.HeadHook2
import HandS.Base
import HandS.Call
import HandS.List
import HandS.Comp
import HandS.Ends
import HandS.Dict
import HandS.Iter
import HandS.Text
import HandS.Exc
import HandS.Words
import HandS.WordsList
import HandS.Defaults
import HandS.IsInst
import HandS.Conv
import HandS.Strs
import PySem.Challenge.RW_quietnet_k27_whole_choice_letters
set_option Elab.async false
set_option linter.all false
set_option maxRecDepth 100000
set_option maxHeartbeats 4000000
namespace Q
open PySem PySem.Spec PyProof.Rows L2

/-! ### frames -/
/-- all but F is kept, tuples are kept -/
structure Fr (F : Addr → Prop) (H H' : Hp) : Prop where
  keep : ∀ b o, H b = some o → ¬ F b → H' b = some o
  tup : ∀ b xs, H b = some (.tup xs) → H' b = some (.tup xs)
abbrev F0 : Addr → Prop := fun _ => False
theorem Fr.refl {F : Addr → Prop} (H : Hp) : Fr F H H := ⟨fun _ _ h _ => h, fun _ _ h => h⟩
theorem Fr.mono {F G : Addr → Prop} {H H' : Hp} (h : Fr F H H') (g : ∀ b, F b → G b) : Fr G H H' := ⟨fun b o e n => h.keep b o e fun z => n (g b z), h.tup⟩
theorem Fr.any {F : Addr → Prop} {H H' : Hp} (h : Fr F0 H H') : Fr F H H' := h.mono fun _ z => z.elim
theorem Fr.trans {F : Addr → Prop} {H H1 H2 : Hp} (a : Fr F H H1) (b : Fr F H1 H2) : Fr F H H2 := ⟨fun c o e n => b.keep c o (a.keep c o e n) n, fun c xs e => b.tup c xs (a.tup c xs e)⟩
/-- the second step's own objects are of F, or new -/
theorem Fr.trans' {F G : Addr → Prop} {H H1 H2 : Hp} (a : Fr F H H1) (b : Fr G H1 H2) (g : ∀ c, G c → F c ∨ H c = none) : Fr F H H2 :=
  ⟨fun c o e n => b.keep c o (a.keep c o e n) (fun z => (g c z).elim n fun q => nomatch (e.symm.trans q)), fun c xs e => b.tup c xs (a.tup c xs e)⟩
theorem Fr.at0 {H H' : Hp} {b : Addr} {o : HO} (h : Fr F0 H H') (e : H b = some o) : H' b = some o := h.keep b o e id
theorem Fr.new {F : Addr → Prop} {H : Hp} {p : Addr} {o : HO} (hp : H p = none) : Fr F H (upd H p o) :=
  ⟨fun b u e _ => by rw [upd_ne (ne_of_none e hp)]; exact e, fun b u e => by rw [upd_ne (ne_of_none e hp)]; exact e⟩
theorem Fr.then_new {F : Addr → Prop} {H H' : Hp} {p : Addr} {o : HO} (a : Fr F H H') (hp : H' p = none) : Fr F H (upd H' p o) := a.trans (.new hp)
def noTup : HO → Prop
  | .tup _ => False
  | _ => True
theorem Fr.put {F : Addr → Prop} {H : Hp} {p : Addr} {o u : HO} (e : H p = some u) (nt : noTup u) (hF : F p) : Fr F H (upd H p o) :=
  ⟨fun b v eb n => (upd_ne (fun z : b = p => n (by rw [z]; exact hF))).trans eb, fun b xs eb => (upd_ne (fun z : b = p => by rw [z, e] at eb; cases eb; exact nt)).trans eb⟩
theorem Fr.then_put {F : Addr → Prop} {H H' : Hp} {p : Addr} {o u : HO} (a : Fr F H H') (e : H' p = some u) (nt : noTup u) (hF : F p) : Fr F H (upd H' p o) := a.trans (.put e nt hF)
/-- what was new ahead of the first step may be changed -/
theorem Fr.then_put_new {F : Addr → Prop} {H H' : Hp} {p : Addr} {o : HO} (a : Fr F H H') (hp : H p = none) : Fr F H (upd H' p o) :=
  ⟨fun b v eb n => by rw [upd_ne (ne_of_none eb hp)]; exact a.keep b v eb n, fun b xs eb => by rw [upd_ne (ne_of_none eb hp)]; exact a.tup b xs eb⟩
theorem Fr.back {F : Addr → Prop} {H H' : Hp} {p : Addr} (a : Fr F H H') (nF : ¬ F p) (hp : H' p = none) : H p = none := by
  cases q : H p with
  | none => rfl
  | some o => rw [a.keep p o q nF] at hp; cases hp
theorem Fr.back0 {H H' : Hp} {p : Addr} (a : Fr F0 H H') (hp : H' p = none) : H p = none := a.back id hp
theorem upd_none {H : Hp} {p q : Addr} {o : HO} : upd H q o p = none ↔ p ≠ q ∧ H p = none := by
  unfold upd
  by_cases h : p = q
  · simp [h]
  · simp [h]
theorem upd_at {H : Hp} {p q : Addr} {o u : HO} (e : H p = some u) (h : p ≠ q) : upd H q o p = some u := by rw [upd_ne h]; exact e
theorem upd_new {H : Hp} {p q : Addr} {o u : HO} (e : H p = some u) (h : H q = none) : upd H q o p = some u := upd_at e (ne_of_none e h)
theorem SqL.fr {K : PySem.W.Frag} {F : Addr → Prop} {H H' : Hp} {a : Addr} {xs : List V} (f : Fr F H H') (n : ¬ F a) (h : SqL K H a xs) : SqL K H' a xs := by
  rcases h with (h | ⟨o, h⟩) | h
  · exact .inl (.inl (f.keep _ _ h n))
  · exact .inl (.inr ⟨o, f.keep _ _ h n⟩)
  · exact .inr h

/-! ### defs by their promises -/
/-- what surrounds: the program, the world, the written part, the module's names, the heap at the law's entry -/
structure En where
  prog : Program
  w : World
  K : PySem.W.Frag
  mg : Str → Option Value
  base : Heap
abbrev enOf (X : Cx) : En := ⟨X.prog, X.w, X.K, X.mg, X.base⟩
abbrev FnG (G : En) (CX : CXT) (k : Nat) (f : Addr) (fd : FuncData) (ps : List Str) (sp : Sp) : Prop := FnOk G.prog G.w G.K G.mg G.base CX k f fd ps sp
structure CalX (G : En) (CX : CXT) (k : Nat) (x : Str) (sp : Sp) (dvs : List V) : Prop where
  ex : ∃ (f : Addr) (fd : FuncData) (ps : List Str) (ds : List Value), FnG G CX k f fd ps sp ∧ G.mg x = some (.ref f) ∧ PySem.W.keepIn G.K (.ref f) = true ∧ Binds G.K fd ps ds ∧ Vals dvs ds
structure MetX (G : En) (CX : CXT) (k : Nat) (C : Addr) (m : Str) (sp : Sp) (dvs : List V) : Prop where
  ex : ∃ (f : Addr) (fd : FuncData) (ps : List Str) (ds : List Value), Cls G.K C ∧ Meth G.K C m f ∧ FnG G CX k f fd ps sp ∧ Binds G.K fd ps ds ∧ Vals dvs ds
structure MakX (G : En) (CX : CXT) (k : Nat) (x : Str) (C : Addr) (sp : Sp) (dvs : List V) : Prop where
  ex : ∃ (f : Addr) (fd : FuncData) (ps : List Str) (ds : List Value), Mk G.K C f ∧ FnG G CX k f fd ps sp ∧ G.mg x = some (.ref C) ∧ Binds G.K fd ps ds ∧ Vals dvs ds
abbrev CalG (G : En) (k : Nat) (x : Str) (sp : Sp) (dvs : List V) : Prop := CalX G CX0 k x sp dvs
abbrev MetG (G : En) (k : Nat) (C : Addr) (m : Str) (sp : Sp) (dvs : List V) : Prop := MetX G CX0 k C m sp dvs
abbrev MakG (G : En) (k : Nat) (x : Str) (C : Addr) (sp : Sp) (dvs : List V) : Prop := MakX G CX0 k x C sp dvs

/-! ### readings -/
abbrev Stt := L2.St
def tCallQ (G : En) (j : Nat) (x : Str) (t : TA) : TE := fun σ H Q => ∃ k sp dvs, CalG G k x sp dvs ∧ k ≤ j ∧ t σ H fun vs H1 => sp (vs ++ dvs) H1 Q E0
def MakeG (C : Addr) (sp : Sp) (dvs vs : List V) (H1 : Hp) (Q : VK) : Prop := ∀ x dx, H1 x = none → H1 dx = none → dx ≠ x →
  sp (.ref x :: (vs ++ dvs)) (upd (upd H1 dx (.own x)) x (.ins C dx [])) (fun v H2 => v = .non ∧ Q (.ref x) H2) E0
def tMakeQ (G : En) (j : Nat) (x : Str) (t : TA) : TE := fun σ H Q => ∃ k C sp dvs, MakG G k x C sp dvs ∧ k + 1 ≤ j ∧ t σ H fun vs H1 => MakeG C sp dvs vs H1 Q
def FldG (K : PySem.W.Frag) (f : Str) (x : V) (H : Hp) (Q : VK) : Prop := ∃ a C dx fs v, x = .ref a ∧ H a = some (.ins C dx fs) ∧ Cls K C ∧ NoAttr K C f ∧ fs.lookup f = some v ∧ Q v H
def tFldQ (K : PySem.W.Frag) (ta : TE) (f : Str) : TE := fun σ H Q => ta σ H fun x H1 => FldG K f x H1 Q
def PutG (K : PySem.W.Frag) (f : Str) (x y : V) (H : Hp) (N : Hp → Prop) : Prop := ∃ a C dx fs, x = .ref a ∧ H a = some (.ins C dx fs) ∧ Cls K C ∧ NoAttr K C f ∧ fs.length < 1000 ∧ N (upd H a (.ins C dx (putF f y fs)))
def sFldQ (K : PySem.W.Frag) (ta tv : TE) (f : Str) : TS := fun D σ H => tv σ H fun y H1 => ta σ H1 fun x H2 => PutG K f x y H2 (D.nx σ)
def MethG (G : En) (j : Nat) (m : Str) (t : TA) (σ : Stt) (x : V) (H1 : Hp) (Q : VK) : Prop := ∃ a C dx fs k sp dvs, x = .ref a ∧ H1 a = some (.ins C dx fs) ∧ fs.lookup m = none ∧
  MetG G k C m sp dvs ∧ k ≤ j ∧ t σ H1 fun vs H2 => sp (.ref a :: (vs ++ dvs)) H2 Q E0
def tMethQ (G : En) (j : Nat) (m : Str) (ta : TE) (t : TA) : TE := fun σ H Q => ta σ H fun x H1 => MethG G j m t σ x H1 Q
def IsB (x : V) (H : Hp) (Q : Bool → Hp → Prop) : Prop := ∃ k, x = .bl k ∧ Q k H
def tTestQ (t : TE) : TT := fun σ H Q => t σ H fun x H' => IsB x H' Q
def rLen (K : PySem.W.Frag) : List V → Hp → VK → Prop := fun xs H Q => ∃ p ys, xs = [.ref p] ∧ (SqL K H p ys ∨ SqT K H p ys) ∧ Q (.int ys.length) H
def rListOf (K : PySem.W.Frag) : List V → Hp → VK → Prop := fun xs H Q => ∃ p ys, xs = [.ref p] ∧ (SqL K H p ys ∨ SqT K H p ys) ∧ ∀ l, H l = none → Q (.ref l) (upd H l (.lst ys))
def BmG (K : PySem.W.Frag) (T : String) (r : V → List V → Hp → VK → Prop) (t : TA) (σ : Stt) (x : V) (H1 : Hp) (Q : VK) : Prop := tyV K T x H1 ∧ t σ H1 fun xs H2 => r x xs H2 Q
def tBMQ (K : PySem.W.Frag) (T : String) (r : V → List V → Hp → VK → Prop) (to : TE) (t : TA) : TE := fun σ H Q => to σ H fun x H1 => BmG K T r t σ x H1 Q
def NewG (n : Nat) (N : Addr → Prop) (H : Hp) : Prop := n ≤ sizeLine ∧ ∀ p, H p = none → N p
def tTupQ (t : TA) : TE := fun σ H Q => t σ H fun xs H1 => NewG xs.length (fun p => Q (.ref p) (upd H1 p (.tup xs))) H1
def tLstQ (t : TA) : TE := fun σ H Q => t σ H fun xs H1 => NewG xs.length (fun p => Q (.ref p) (upd H1 p (.lst xs))) H1
def rIsNq : R2 := fun x y H Q => y = .non ∧ Q (.bl (decide (x = .non))) H
def rNotNq : R2 := fun x y H Q => y = .non ∧ Q (.bl (!decide (x = .non))) H
def ChnG (r' : R2) (tc : TE) (σ : Stt) (Q : VK) (y z : V) (H3 : Hp) : Prop := ∃ k, z = .bl k ∧ (if k = true then tc σ H3 fun w' H4 => r' y w' H4 Q else Q (.bl false) H3)
def tChainQ (r r' : R2) (ta tb tc : TE) : TE := fun σ H Q => ta σ H fun x H1 => tb σ H1 fun y H2 => r x y H2 fun z H3 => ChnG r' tc σ Q y z H3
def AndG (tb : TE) (σ : Stt) (Q : VK) (x : V) (H1 : Hp) : Prop := ∃ c, x = .bl c ∧ if c = true then tb σ H1 Q else Q (.bl false) H1
def tAndVQ (ta tb : TE) : TE := fun σ H Q => ta σ H fun x H1 => AndG tb σ Q x H1
def OrG (tb : TE) (σ : Stt) (Q : VK) (x : V) (H1 : Hp) : Prop := ∃ c, x = .bl c ∧ if c = true then Q (.bl true) H1 else tb σ H1 Q
def tOrVQ (ta tb : TE) : TE := fun σ H Q => ta σ H fun x H1 => OrG tb σ Q x H1
def NotG (Q : VK) (x : V) (H1 : Hp) : Prop := ∃ c, x = .bl c ∧ Q (.bl (!c)) H1
def tNotVQ (ta : TE) : TE := fun σ H Q => ta σ H fun x H1 => NotG Q x H1
def DGetG (a : V) (y : V) (H : Hp) (Q : VK) : Prop := ∃ d v, a = .ref d ∧ DGet H d y (some v) ∧ Q v H
def tDGetQ (td ty : TE) : TE := fun σ H Q => td σ H fun x H1 => ty σ H1 fun y H2 => DGetG x y H2 Q
def Rng1G (vs : List V) (H1 : Hp) (R : It → Hp → Prop) : Prop := ∃ j : Int, vs = [.int j] ∧ -(2 ^ 62) ≤ j ∧ j < 2 ^ 62 ∧ R (Itr 0 j.toNat) H1
def Rng2G (vs : List V) (H1 : Hp) (R : It → Hp → Prop) : Prop := ∃ i j : Int, vs = [.int i, .int j] ∧ (-(2 ^ 62) ≤ i ∧ i < 2 ^ 62 ∧ -(2 ^ 62) ≤ j ∧ j < 2 ^ 62) ∧ R (Itr i (j - i).toNat) H1
def iRng1Q (ta : TA) : TI := fun σ H R => ta σ H fun vs H1 => Rng1G vs H1 R
def iRng2Q (ta : TA) : TI := fun σ H R => ta σ H fun vs H1 => Rng2G vs H1 R
def ItLG (K : PySem.W.Frag) (x : V) (H1 : Hp) (R : It → Hp → Prop) : Prop := ∃ a, x = .ref a ∧ (∃ xs, SqL K H1 a xs) ∧ R (Itl K a) H1
def iListQ (K : PySem.W.Frag) (tl : TE) : TI := fun σ H R => tl σ H fun x H1 => ItLG K x H1 R
/-- a comprehension's loop, a for's loop -/
def LcG (g : TG) (tt : TT) (te : TE) (vs : List Nat) (σ : Stt) (Q : VK) (J : It) (H1 : Hp) : Prop := ∀ D, H1 D = none → ∃ W : Nat → Nat → Hp → Prop, (∃ m, W 0 m (upd H1 D (.lst []))) ∧ ∀ i m H, W i m H →
  (J.stop i H ∧ Q (.ref D) H) ∨ (J.go i H ∧ ∃ N : Hp → Prop, (∀ H', N H' → ∃ m', m' < m ∧ W (i + 1) m' H') ∧ ∀ x H', J.yld i H x H' → g x (wipe σ vs) H' fun σ2 H2 => wipe σ2 vs = wipe σ vs ∧ tt σ2 H2 fun b H3 => if b = true then te σ2 H3 fun y H4 => ∃ acc, H4 D = some (.lst acc) ∧ acc.length < sizeLine ∧ N (upd H4 D (.lst (acc ++ [y]))) else N H3)
def tLcQ (wi : TI) (g : TG) (tt : TT) (te : TE) (vs : List Nat) : TE := fun σ H Q => wi σ H fun J H1 => LcG g tt te vs σ Q J H1
def ForG (g : TG) (tb : TS) (D : Ends) (σ : Stt) (J : It) (H1 : Hp) : Prop := ∃ W : Nat → Nat → Stt → Hp → Prop, (∃ m, W 0 m σ H1) ∧ ∀ i m σ H, W i m σ H →
  (J.stop i H ∧ D.nx σ H) ∨ (J.go i H ∧ ∃ N : Stt → Hp → Prop, (∀ σ' H', N σ' H' → ∃ m', m' < m ∧ W (i + 1) m' σ' H') ∧ ∀ x H', J.yld i H x H' → g x σ H' fun σ2 H2 => tb { D with nx := N, ct := N, bk := D.nx } σ2 H2)
def tForQ (wi : TI) (g : TG) (tb : TS) : TS := fun D σ H => wi σ H fun J H1 => ForG g tb D σ J H1


/-! ### rules -/
section
variable {X : Cx} {o e value a b c : Expr} {es rest : List Expr} {f m x : Str} {p pos pos' apos : Pos} {ta tb tc tv te : TE} {t : TA} {tA : TT} {j : Nat}
theorem e_call (hr : Room j X.A) (hg : Gl X x) (ha : PA X (e :: es) t)
    (hdb : (x == ("__debug__" : Str)) = false := by decide) (he : starEach (e :: es) X.env = (false, eval e X.env) :: starEach es X.env := by rfl) (hpl : (backTo pos (starEach es X.env)).any (·.1) = false := by rfl) :
    PE X (.Call (.Name x p) (e :: es) [] pos) (tCallQ (enOf X) j x t) := by
  refine ⟨fun pins s σ H Q I h => ?_⟩
  obtain ⟨k, sp, dvs, c, hk, h⟩ := h
  obtain ⟨f, fd, ps, ds, F, hm, kp, b, d⟩ := c.ex
  exact (pe_call F (hr.mono hk) hg hm kp b d pass0 ha hdb he hpl).run pins s σ H Q I h
theorem e_make (hr : Room j X.A) (hg : Gl X x) (ha : PA X (e :: es) t)
    (hdb : (x == ("__debug__" : Str)) = false := by decide) (he : starEach (e :: es) X.env = (false, eval e X.env) :: starEach es X.env := by rfl) (hpl : (backTo pos (starEach es X.env)).any (·.1) = false := by rfl) :
    PE X (.Call (.Name x p) (e :: es) [] pos) (tMakeQ (enOf X) j x t) := by
  refine ⟨fun pins s σ H Q I h => ?_⟩
  obtain ⟨k, C, sp, dvs, c, hk, h⟩ := h
  obtain ⟨f, fd, ps, ds, M, F, hm, b, d⟩ := c.ex
  exact (pe_make M F (hr.mono hk) hg hm b d pass0 ha hdb he hpl).run pins s σ H Q I h
theorem e_meth {pl : Sem Bool} (hr : Room j X.A) (he : PE X o ta) (ha : PA X (e :: es) t)
    (hst : starEach (e :: es) X.env = (false, eval e X.env) :: starEach es X.env := by rfl) (hpl : (backTo pos (starEach es X.env)).any (·.1) = false := by rfl)
    (ht : eval (.Call (.Attribute o m apos) (e :: es) [] pos) X.env = (do
      let ov ← eval o X.env
      standAt apos.atName
      let (f, first) ← holding [ov] (getMethod ov m pl)
      callWith pos f first (backTo pos (starEach (e :: es) X.env)) (backToKw pos (keywordEach [] X.env))) := by rfl) :
    PE X (.Call (.Attribute o m apos) (e :: es) [] pos) (tMethQ (enOf X) j m ta t) := by
  refine ⟨fun pins s σ H Q I h => ?_⟩
  refine PySem.W.methodCall_KW (pl := pl) (thn (he.run pins s σ H _ I h) fun u s1 ⟨x, H1, I1, rx, a, C, dx, fs, k, sp, dvs, ex, ea, l, c, hk, q⟩ => ?_) ht
  obtain ⟨f, fd, ps, ds, cl, hm, F, hb, hd⟩ := c.ex
  subst ex
  obtain rfl : u = Value.ref a := rx
  refine getmeth_ok I1 ea cl hm l ?_
  refine PySem.W.callWith_K (first := [.ref a]) (h₀ := X.base) I.ok.mod.kin hm.kp (thn (ha.run pos pins s1 σ H1 _ I1 q) fun us s2 ⟨vs, H2, I2, r, q2⟩ => ⟨I2.kIn, ?_⟩) hst hpl
  exact run_fn (us := .ref a :: us) (vs := .ref a :: vs) F (hr.mono hk) hb hd pass0 I2 (.cons rfl r) q2
theorem e_meth0 {pl : Sem Bool} (hr : Room j X.A) (he : PE X o ta)
    (ht : eval (.Call (.Attribute o m apos) [] [] pos) X.env = (do
      let ov ← eval o X.env
      standAt apos.atName
      let (f, first) ← holding [ov] (getMethod ov m pl)
      callWith pos f first (backTo pos (starEach [] X.env)) (backToKw pos (keywordEach [] X.env))) := by rfl) :
    PE X (.Call (.Attribute o m apos) [] [] pos) (tMethQ (enOf X) j m ta tNil) := by
  refine ⟨fun pins s σ H Q I h => ?_⟩
  refine PySem.W.methodCall_KW (pl := pl) (thn (he.run pins s σ H _ I h) fun u s1 ⟨x, H1, I1, rx, a, C, dx, fs, k, sp, dvs, ex, ea, l, c, hk, q⟩ => ?_) ht
  obtain ⟨f, fd, ps, ds, cl, hm, F, hb, hd⟩ := c.ex
  subst ex
  obtain rfl : u = Value.ref a := rx
  refine getmeth_ok I1 ea cl hm l ?_
  refine PySem.W.callWith_K0 (first := [.ref a]) I1.kIn hm.kp ?_
  exact run_fn (us := [.ref a]) (vs := [.ref a]) F (hr.mono hk) hb hd pass0 I1 (.cons rfl .nil) q
theorem e_fld (he : PE X e ta) (hb : attributeBase e f X.env (eval e X.env) = eval e X.env := by rfl) : PE X (.Attribute e f pos) (tFldQ X.K ta f) := pe_fld he hb
theorem s_fld (ha : PE X o ta) (hv : PE X value tv) (hs : swapsWith value (some (.Attribute o f pos')) pos.line X.env = pure false := by rfl) : PS X (.Assign [.Attribute o f pos'] value pos) (sFldQ X.K ta tv f) := ps_fld ha hv hs
theorem e_cmp {op : CmpOp} {r : R2} (ho : OpR X (compareOp op) r) (ha : PE X a ta) (hb : PE X b tb) (hm : behindInMarks op b = false) : PE X (.Compare a [op] [b] pos) (tOp r ta tb) := pe_cmpR ho ha hb hm
theorem b_cmp {op : CmpOp} {r : R2} (ho : OpR X (compareOp op) r) (ha : PE X a ta) (hb : PE X b tb) (hm : behindInMarks op b = false) : PT X (.Compare a [op] [b] pos) (tTestQ (tOp r ta tb)) := pt_cmpR ho ha hb hm
theorem e_chain {op op' : CmpOp} {r r' : R2} (ho : OpR X (compareOp op) r) (ho' : OpR X (compareOp op') r') (ha : PE X a ta) (hb : PE X b tb) (hc : PE X c tc)
    (hm : lastMarks [op, op'] [b, c] = false := by with_unfolding_all rfl) : PE X (.Compare a [op, op'] [b, c] pos) (tChainQ r r' ta tb tc) := pe_chain ho ho' ha hb hc hm
theorem b_chain {op op' : CmpOp} {r r' : R2} (ho : OpR X (compareOp op) r) (ho' : OpR X (compareOp op') r') (ha : PE X a ta) (hb : PE X b tb) (hc : PE X c tc)
    (hm : lastMarks [op, op'] [b, c] = false := by with_unfolding_all rfl) : PT X (.Compare a [op, op'] [b, c] pos) (tTestQ (tChainQ r r' ta tb tc)) := pt_chain ho ho' ha hb hc hm
theorem b_val (h : PE X e te) (he : ∀ whole, isTrue e X.env whole = (do let v ← whole; standAt e.pos; holding [v] (truthy v)) := by intro _; rfl) : PT X e (tTestQ te) := pt_val h he
theorem b_and1 (ha : PT X a tA) : PW X (.BoolOp .And [a] pos) tA := pw_and1 ha
theorem e_and (ha : PE X a ta) (hb : PE X (.BoolOp .And (b :: rest) pos) tb) : PE X (.BoolOp .And (a :: b :: rest) pos) (tAndVQ ta tb) := pe_and ha hb
theorem e_or (ha : PE X a ta) (hb : PE X (.BoolOp .Or (b :: rest) pos) tb) : PE X (.BoolOp .Or (a :: b :: rest) pos) (tOrVQ ta tb) := pe_or ha hb
theorem e_not (ha : PE X a ta) : PE X (.UnaryOp .Not a pos) (tNotVQ ta) := pe_not ha
theorem c_len : CallR X (.builtin "len") (rLen X.K) := call_len_seq
theorem c_list : CallR X (.type "list") (rListOf X.K) := call_list_of
theorem c_isN : OpR X (compareOp .Is) rIsNq := op_isN
theorem c_notN : OpR X (compareOp .IsNot) rNotNq := op_notN
theorem e_tup {x1} (h : PA X es t) : PE X (.Tuple es x1 pos) (tTupQ t) := pe_tup h
theorem e_lst (h : PA X es t) : PE X (.List es pos) (tLstQ t) := pe_lst h
theorem e_bm {T name id : String} {to : TE} {cpos : Pos} {r : V → List V → Hp → VK → Prop} (pa : PlainAttrs T) (slot : Slot T name id) (hty : typeOf (.builtin id) = pure (.type "method_descriptor")) (hm : MtR X id r) (ho : PE X o to) (ha : PA X (e :: es) t)
    (hbase : attributeBase o name X.env (eval o X.env) = eval o X.env := by rfl)
    (hfew : ((backTo cpos (starEach (e :: es) X.env)).all (fun x => !x.1) && (backToKw cpos (keywordEach [] X.env)).all (fun x => x.1.isSome)
      && decide ((e :: es).length + ([] : List Keyword).length + (if ([] : List Keyword).isEmpty then 0 else 1) < 30)) = true := by rfl)
    (hline : (apos.endLine == cpos.line) = true := by rfl) (hs : starEach (e :: es) X.env = (false, eval e X.env) :: starEach es X.env := by rfl) (hplain : (backTo cpos (starEach es X.env)).any (·.1) = false := by rfl) :
    PE X (.Call (.Attribute o name apos) (e :: es) [] cpos) (tBMQ X.K T r to t) := pe_bm pa slot hty hm ho ha hbase hfew hline hs hplain
theorem e_dget (hu : X.A.units + 1 < cLine) (ho : PE X o ta) (hi : PE X a tb) (hs : NoSl a := by intro _ _; rfl) : PE X (.Subscript o a pos) (tDGetQ ta tb) := pe_dget hu ho hi hs
theorem i_rng1 {tg : Expr} (hg : Gl X "range") (hm : X.mg "range" = none) (ha : PA X [a] t) (hs : starEach [a] X.env = [(false, eval a X.env)] := by rfl) : PI X tg (.Call (.Name "range" p) [a] [] pos) (iRng1Q t) := pi_range1 hg hm ha hs
theorem i_rng2 {tg : Expr} (hg : Gl X "range") (hm : X.mg "range" = none) (ha : PA X [a, b] t) (hs : starEach [a, b] X.env = [(false, eval a X.env), (false, eval b X.env)] := by rfl) (hs2 : starEach [b] X.env = [(false, eval b X.env)] := by rfl) : PI X tg (.Call (.Name "range" p) [a, b] [] pos) (iRng2Q t) := pi_range2 hg hm ha hs hs2
theorem i_list {tg : Expr} (hl : PE X e te) : PI X tg e (iListQ X.K te) := pi_list hl
theorem s_for {tg iter : Expr} {body : List Stmt} {wi : TI} {g : TG} {tb : TS} (hp : PassesOwn (model X.prog X.w) X.A X.env X.xe) (hc : X.calm = true) (hi : PI X tg iter wi) (hg : PG X tg g) (hb : PSs X body tb)
    (hs : ∀ x, foldedSetIterable iter X.env x = pure x := by intro _; rfl) : PS X (.For tg iter body [] pos) (tForQ wi g tb) := ps_for hp hc hi hg hb hs
theorem e_lc {elt tg iter : Expr} {ifs : List Expr} {scope : Scope} {own : List (Str × Nat)} {wi : TI} {g : TG} {tt : TT} {te : TE} (hc : X.calm = true) (hN : X.N.Nodup) (hi : PI X tg iter wi) (ok : BlkOk X.N X.env.scope scope own)
    (hg : ∀ (s : Shared) (H : Hp) (C : Addr) (cl : List (Str × Addr)) (fp : List Addr), PG (X.blk s H scope (compEnvC scope cl C X.env) fp) tg g) (ht : ∀ (s : Shared) (H : Hp) (C : Addr) (cl : List (Str × Addr)) (fp : List Addr), PTs (X.blk s H scope (compEnvC scope cl C X.env) fp) ifs tt)
    (he : ∀ (s : Shared) (H : Hp) (C : Addr) (cl : List (Str × Addr)) (fp : List Addr), PE (X.blk s H scope (compEnvC scope cl C X.env) fp) elt te) (hs : ∀ x, foldedSetIterable iter X.env x = pure x := by intro _; rfl) :
    PE X (.ListComp elt [⟨tg, iter, ifs, 0⟩] scope pos) (tLcQ wi g tt te (own.map (·.2))) := pe_lc hc hN hi ok hg ht he hs
theorem s_setLc {i : Nat} {y : Str} {py : Pos} {elt tg iter : Expr} {ifs : List Expr} {scope : Scope} {own : List (Str × Nat)} {spos : Pos} {wi : TI} {g : TG} {tt : TT} {te : TE} (hc : X.calm = true) (hN : X.N.Nodup) (hy : X.N[i]? = some y) (hyl : X.env.scope.names.lookup y = some .local)
    (hsw : swapsWith (.ListComp elt [⟨tg, iter, ifs, 0⟩] scope pos) (some (.Name y py)) spos.line X.env = pure true) (hi : PI X tg iter wi) (ok : BlkOk X.N X.env.scope scope own)
    (hg : ∀ (s : Shared) (H : Hp) (C : Addr) (cl : List (Str × Addr)) (fp : List Addr), PG (X.blk s H scope (compEnvC scope cl C X.env) fp) tg g) (ht : ∀ (s : Shared) (H : Hp) (C : Addr) (cl : List (Str × Addr)) (fp : List Addr), PTs (X.blk s H scope (compEnvC scope cl C X.env) fp) ifs tt)
    (he : ∀ (s : Shared) (H : Hp) (C : Addr) (cl : List (Str × Addr)) (fp : List Addr), PE (X.blk s H scope (compEnvC scope cl C X.env) fp) elt te) (hs : ∀ x, foldedSetIterable iter X.env x = pure x := by intro _; rfl) :
    PS X (.Assign [.Name y py] (.ListComp elt [⟨tg, iter, ifs, 0⟩] scope pos) spos) (tAsg (tLcQ wi g tt te (own.map (·.2))) (gName i)) := ps_setLc hc hN hy hyl hsw hi ok hg ht he hs
end

/-! ### a def by its body -/
section
variable {G : En} {x qual : Str} {st : Stmt} {dvs : List V} {f C : Addr} {fd : FuncData} {N ps : List Str} {k : Nat} {sp : Sp} {t : TS}
abbrev FnP (K : PySem.W.Frag) (x qual : Str) (st : Stmt) (dvs : List V) (f : Addr) (fd : FuncData) : Prop := FunD K x qual (defArgs st) (defBody st) (defScope st) dvs [] f fd
abbrev cx0 (G : En) (N : List Str) (qual : Str) (st : Stmt) (f : Addr) (cdv : Value) (A : Around) (outer : List Env) (s : Shared) (H : Hp) (E : XK) : Cx :=
  (cxOf CX0 G.prog G.w G.K G.mg G.base N qual (defScope st) f cdv A outer s H E).nox
abbrev rm0 (k : Nat) (qual : Str) (st : Stmt) (f : Addr) (cdv : Value) (A : Around) (s : Shared) : Prop := Room k (A.deeper (envOfC qual (defScope st) s.heap.objs.size f cdv))
theorem fn_ok0 (F : FnP G.K x qual st dvs f fd) (S : FnScope N ps (defScope st)) (len : ∀ vs H Q E, sp vs H Q E → vs.length = ps.length)
    (dv : ∀ (cdv : Value) (A : Around) (outer : List Env) (s : Shared) (H : Hp) (E : XK), rm0 k qual st f cdv A s → PSs (cx0 G N qual st f cdv A outer s H E) (defBody st) t)
    (pure : ∀ vs H Q E, sp vs H Q E → t { nx := fun _ H' => Q .non H', rt := Q } (start N vs) H) : FnG G CX0 (k + 1) f fd ps sp :=
  F.ok S len fun cdv A outer s H vs Q E hr h => ⟨t, (dv cdv A outer s H E hr).nox, pure vs H Q E h⟩
end

/-! ### the steps -/
theorem sl1000 {n : Nat} (h : n ≤ 100000) : n ≤ sizeLine := Nat.le_trans h (by decide)
section
variable {σ σ' : Stt} {H : Hp} {Q : VK} {K : PySem.W.Frag} {G : En} {ta tb tc te tv : TE} {t u : TT} {tl : TA} {r r' : R2} {x y v z : V} {D : Ends} {tu tw : TS} {g : TG} {gs : TGs} {QT : Bool → Hp → Prop} {QA : List V → Hp → Prop} {N : Stt → Hp → Prop} {a l d : Addr} {xs ys vs : List V} {f m : Str} {j : Nat}
theorem x_var {i : Nat} (h : σ[i]? = some (some v)) (k : Q v H) : tVar i σ H Q := ⟨v, h, k⟩
theorem x_c (k : Q v H) : tC v σ H Q := k
theorem x_op (k : ta σ H fun x H1 => tb σ H1 fun y H2 => r x y H2 Q) : tOp r ta tb σ H Q := k
theorem x_un {r : V → Hp → VK → Prop} (k : ta σ H fun x H1 => r x H1 Q) : tUn r ta σ H Q := k
theorem x_I0 {g : Int → Int → V} {i j : Int} (k : Q (g i j) H) : rI0 g (.int i) (.int j) H Q := ⟨i, j, rfl, rfl, k⟩
theorem x_I {C : Int → Int → Prop} {g : Int → Int → V} {i j : Int} (c : C i j) (k : Q (g i j) H) : rI C g (.int i) (.int j) H Q := ⟨i, j, rfl, rfl, c, k⟩
theorem x_mod {i j : Int} (c : 0 < j) (k : Q (.int (i % j)) H) : rI (fun _ j => 0 < j) (fun i j => .int (i % j)) (.int i) (.int j) H Q := x_I c k
theorem x_div {i j : Int} (c : 0 < j ∧ j < 1073741824) (k : Q (.int (i / j)) H) : rI CDiv (fun i j => .int (i / j)) (.int i) (.int j) H Q := x_I c k
theorem x_mulL {i j : Int} (c : -(2 ^ 64) < i ∧ i < 2 ^ 64) (k : Q (.int (i * j)) H) : rI CMul (fun i j => .int (i * j)) (.int i) (.int j) H Q := x_I (.inl c) k
theorem x_mulR {i j : Int} (c : -(2 ^ 64) < j ∧ j < 2 ^ 64) (k : Q (.int (i * j)) H) : rI CMul (fun i j => .int (i * j)) (.int i) (.int j) H Q := x_I (.inr c) k
theorem x_eqI {i j : Int} (k : Q (.bl (decide (i = j))) H) : rEq (.int i) (.int j) H Q := ⟨rfl, by rw [show decide (V.int i = V.int j) = decide (i = j) by simp]; exact k⟩
theorem x_neI {i j : Int} (k : Q (.bl (!decide (i = j))) H) : rNe (.int i) (.int j) H Q := ⟨rfl, by rw [show decide (V.int i = V.int j) = decide (i = j) by simp]; exact k⟩
theorem x_eqS {i j : Str} (k : Q (.bl (decide (i = j))) H) : rEq (.str i) (.str j) H Q := ⟨rfl, by rw [show decide (V.str i = V.str j) = decide (i = j) by simp]; exact k⟩
theorem x_neS {i j : Str} (k : Q (.bl (!decide (i = j))) H) : rNe (.str i) (.str j) H Q := ⟨rfl, by rw [show decide (V.str i = V.str j) = decide (i = j) by simp]; exact k⟩
theorem x_eqB {i j : Bool} (k : Q (.bl (decide (i = j))) H) : rEq (.bl i) (.bl j) H Q := ⟨rfl, by rw [show decide (V.bl i = V.bl j) = decide (i = j) by simp]; exact k⟩
theorem x_eqV (h : scal x y = true) (k : Q (.bl (decide (x = y))) H) : rEq x y H Q := ⟨h, k⟩
theorem x_neV (h : scal x y = true) (k : Q (.bl (!decide (x = y))) H) : rNe x y H Q := ⟨h, k⟩
theorem x_isNn (k : Q (.bl true) H) : rIsNq .non .non H Q := ⟨rfl, k⟩
theorem x_isNi {i : Int} (k : Q (.bl false) H) : rIsNq (.int i) .non H Q := ⟨rfl, k⟩
theorem x_isNr (k : Q (.bl false) H) : rIsNq (.ref a) .non H Q := ⟨rfl, k⟩
theorem x_isN (k : Q (.bl (decide (x = .non))) H) : rIsNq x .non H Q := ⟨rfl, k⟩
theorem x_notNn (k : Q (.bl false) H) : rNotNq .non .non H Q := ⟨rfl, k⟩
theorem x_notNi {i : Int} (k : Q (.bl true) H) : rNotNq (.int i) .non H Q := ⟨rfl, k⟩
theorem x_notNr (k : Q (.bl true) H) : rNotNq (.ref a) .non H Q := ⟨rfl, k⟩
theorem x_notN (k : Q (.bl (!decide (x = .non))) H) : rNotNq x .non H Q := ⟨rfl, k⟩
theorem x_cons (k : te σ H fun x H1 => tl σ H1 fun xs H2 => QA (x :: xs) H2) : tCons te tl σ H QA := k
theorem x_nil (k : QA [] H) : tNil σ H QA := k
theorem x_call {j k : Nat} {sp : Sp} {dvs : List V} (c : CalG G k f sp dvs) (hk : k ≤ j) (q : tl σ H fun vs H1 => sp (vs ++ dvs) H1 Q E0) : tCallQ G j f tl σ H Q := ⟨k, sp, dvs, c, hk, q⟩
theorem x_make {j k : Nat} {C : Addr} {sp : Sp} {dvs : List V} (c : MakG G k f C sp dvs) (hk : k + 1 ≤ j) (q : tl σ H fun vs H1 => MakeG C sp dvs vs H1 Q) : tMakeQ G j f tl σ H Q := ⟨k, C, sp, dvs, c, hk, q⟩
theorem x_fld (k : ta σ H fun x H1 => FldG K f x H1 Q) : tFldQ K ta f σ H Q := k
theorem x_fldg {C dx : Addr} {fs : List (Str × V)} (h : H a = some (.ins C dx fs)) (c : Cls K C) (n : NoAttr K C f) (l : fs.lookup f = some v) (k : Q v H) : FldG K f (.ref a) H Q := ⟨a, C, dx, fs, v, rfl, h, c, n, l, k⟩
theorem x_sfld (k : tv σ H fun y H1 => ta σ H1 fun x H2 => PutG K f x y H2 (D.nx σ)) : sFldQ K ta tv f D σ H := k
theorem x_putg {C dx : Addr} {fs fs' : List (Str × V)} {N : Hp → Prop} (h : H a = some (.ins C dx fs)) (c : Cls K C) (n : NoAttr K C f) (l : fs.length < 1000) (e : putF f y fs = fs') (k : N (upd H a (.ins C dx fs'))) : PutG K f (.ref a) y H N := ⟨a, C, dx, fs, rfl, h, c, n, l, by rw [e]; exact k⟩
theorem x_meth (k : ta σ H fun x H1 => MethG G j m tl σ x H1 Q) : tMethQ G j m ta tl σ H Q := k
theorem x_methg {C dx : Addr} {fs : List (Str × V)} {k : Nat} {sp : Sp} {dvs : List V} (h : H a = some (.ins C dx fs)) (c : MetG G k C m sp dvs) (hk : k ≤ j) (l : fs.lookup m = none) (q : tl σ H fun vs H2 => sp (.ref a :: (vs ++ dvs)) H2 Q E0) : MethG G j m tl σ (.ref a) H Q :=
  ⟨a, C, dx, fs, k, sp, dvs, rfl, h, l, c, hk, q⟩
theorem x_test (k : te σ H fun x H' => IsB x H' QT) : tTestQ te σ H QT := k
theorem x_isB {b : Bool} (k : QT b H) : IsB (.bl b) H QT := ⟨b, rfl, k⟩
theorem x_cb {r : List V → Hp → VK → Prop} (k : tl σ H fun vs H1 => r vs H1 Q) : tCB r tl σ H Q := k
theorem x_lenL (h : H a = some (.lst xs)) (k : Q (.int (xs.length : Int)) H) : rLen K [.ref a] H Q := ⟨a, xs, rfl, .inl (SqL.of h), k⟩
theorem x_lenT (h : H a = some (.tup xs)) (k : Q (.int (xs.length : Int)) H) : rLen K [.ref a] H Q := ⟨a, xs, rfl, .inr (SqT.of h), k⟩
theorem x_listL (h : SqL K H a xs) (k : ∀ l, H l = none → Q (.ref l) (upd H l (.lst xs))) : rListOf K [.ref a] H Q := ⟨a, xs, rfl, .inl h, k⟩
theorem x_bm {T : String} {r : V → List V → Hp → VK → Prop} (k : ta σ H fun x H1 => BmG K T r tl σ x H1 Q) : tBMQ K T r ta tl σ H Q := k
theorem x_bmL {r : V → List V → Hp → VK → Prop} (h : H a = some (.lst xs)) (k : tl σ H fun ys H2 => r (.ref a) ys H2 Q) : BmG K "list" r tl σ (.ref a) H Q := ⟨.inl ⟨rfl, xs, SqL.of h⟩, k⟩
theorem x_app (h : H a = some (.lst xs)) (hz : xs.length < 100000) (k : Q .non (upd H a (.lst (xs ++ [y])))) : rAppend (.ref a) [y] H Q := ⟨a, xs, y, rfl, rfl, h, Nat.lt_of_lt_of_le hz (by decide), k⟩
theorem x_pop0 (h : H a = some (.lst (y :: xs))) (k : Q y (upd H a (.lst xs))) : rPopAt (.ref a) [.int 0] H Q :=
  ⟨a, y :: xs, 0, 0, y, rfl, rfl, h, by decide, by decide, by simp [seqIndex?], rfl, k⟩
theorem x_new {n : Nat} {NN : Addr → Prop} (hn : n ≤ 100000) (k : ∀ p, H p = none → NN p) : NewG n NN H := ⟨sl1000 hn, k⟩
theorem x_tup (k : tl σ H fun xs H1 => NewG xs.length (fun p => Q (.ref p) (upd H1 p (.tup xs))) H1) : tTupQ tl σ H Q := k
theorem x_lst (k : tl σ H fun xs H1 => NewG xs.length (fun p => Q (.ref p) (upd H1 p (.lst xs))) H1) : tLstQ tl σ H Q := k
theorem x_chain (k : ta σ H fun x H1 => tb σ H1 fun y H2 => r x y H2 fun z H3 => ChnG r' tc σ Q y z H3) : tChainQ r r' ta tb tc σ H Q := k
theorem x_chn {b : Bool} (k : if b = true then tc σ H fun w' H4 => r' y w' H4 Q else Q (.bl false) H) : ChnG r' tc σ Q y (.bl b) H := ⟨b, rfl, k⟩
theorem x_andV (k : ta σ H fun x H1 => AndG tb σ Q x H1) : tAndVQ ta tb σ H Q := k
theorem x_andg {b : Bool} (k : if b = true then tb σ H Q else Q (.bl false) H) : AndG tb σ Q (.bl b) H := ⟨b, rfl, k⟩
theorem x_orV (k : ta σ H fun x H1 => OrG tb σ Q x H1) : tOrVQ ta tb σ H Q := k
theorem x_org {b : Bool} (k : if b = true then Q (.bl true) H else tb σ H Q) : OrG tb σ Q (.bl b) H := ⟨b, rfl, k⟩
theorem x_notV (k : ta σ H fun x H1 => NotG Q x H1) : tNotVQ ta σ H Q := k
theorem x_notg {b : Bool} (k : Q (.bl (!b)) H) : NotG Q (.bl b) H := ⟨b, rfl, k⟩
theorem x_and (k : t σ H fun c H1 => if c = true then u σ H1 QT else QT false H1) : tAnd t u σ H QT := k
theorem x_or (k : t σ H fun c H1 => if c = true then QT true H1 else u σ H1 QT) : tOr t u σ H QT := k
theorem x_not (k : t σ H fun c H1 => QT (!c) H1) : tNot t σ H QT := k
theorem x_ifE (k : t σ H fun c H1 => if c = true then ta σ H1 Q else tb σ H1 Q) : tIf t ta tb σ H Q := k
theorem x_dget (k : ta σ H fun x H1 => tb σ H1 fun y H2 => DGetG x y H2 Q) : tDGetQ ta tb σ H Q := k
theorem x_ixL {i : Nat} {n : Int} (h : H a = some (.lst xs)) (e : n = (i : Int)) (hv : xs[i]? = some v) (k : Q v H) : rIxL K (.ref a) (.int n) H Q := ⟨a, xs, n, v, rfl, rfl, SqL.of h, by rw [e]; exact atI_nat hv, k⟩
theorem x_ixT {i : Nat} {n : Int} (h : H a = some (.tup xs)) (e : n = (i : Int)) (hv : xs[i]? = some v) (k : Q v H) : rIxT K (.ref a) (.int n) H Q := ⟨a, xs, n, v, rfl, rfl, SqT.of h, by rw [e]; exact atI_nat hv, k⟩
theorem x_rep {n : Int} (h : H a = some (.lst xs)) (h0 : 0 ≤ n ∧ n ≤ 1000) (hx : xs.length ≤ 10) (k : ∀ p, H p = none → Q (.ref p) (upd H p (.lst (List.replicate n.toNat xs).flatten))) : rRep (.ref a) (.int n) H Q :=
  ⟨a, n, xs, rfl, rfl, h, by omega, by omega, Nat.le_trans (Nat.mul_le_mul hx (show n.toNat ≤ 1000 by omega)) (by decide), k⟩
-- statements
theorem x_seq (k : tu { D with nx := tw D } σ H) : tSeq tu tw D σ H := k
theorem x_asg (k : te σ H fun x H1 => g x σ H1 D.nx) : tAsg te g D σ H := k
theorem x_gname {i : Nat} (k : N (σ.set i (some v)) H) : gName i v σ H N := k
theorem x_gtup {n : Nat} (h : H a = some (.tup xs)) (hn : xs.length = n) (k : gs xs σ H N) : gTup K n gs (.ref a) σ H N := ⟨a, xs, rfl, SqT.of h, hn, k⟩
theorem x_gcons (k : g v σ H fun σ' H' => gs xs σ' H' N) : gCons g gs (v :: xs) σ H N := ⟨v, xs, rfl, k⟩
theorem x_gnil (k : N σ H) : gNil [] σ H N := ⟨rfl, k⟩
theorem x_gsub {ts : TSet} (k : ta σ H fun o H1 => tb σ H1 fun i H2 => ts o i v H2 fun H3 => N σ H3) : gSub ta tb ts v σ H N := k
theorem x_setL {NN : Hp → Prop} {i : Nat} {n : Int} (h : H a = some (.lst xs)) (e : n = (i : Int)) (hi : i < xs.length) (k : NN (upd H a (.lst (xs.set i v)))) : rSetL (.ref a) (.int n) v H NN := by
  refine ⟨a, xs, n, i, rfl, rfl, h, ?_, k⟩
  subst e
  unfold ixN
  rw [if_pos (by omega), if_pos (by omega)]
  simp
theorem x_ifs (k : t σ H fun b H1 => if b = true then tu D σ H1 else tw D σ H1) : tIfS t tu tw D σ H := k
theorem x_ret (k : te σ H D.rt) : tRet te D σ H := k
theorem x_retN (k : D.rt .non H) : tRetN D σ H := k
theorem x_drop (k : te σ H fun _ H1 => D.nx σ H1) : tDrop te D σ H := k
theorem x_next (k : D.nx σ H) : tNext D σ H := k
theorem x_for {wi : TI} (k : wi σ H fun J H1 => ForG g tu D σ J H1) : tForQ wi g tu D σ H := k
theorem x_lc {wi : TI} {ws : List Nat} (k : wi σ H fun J H1 => LcG g t te ws σ Q J H1) : tLcQ wi g t te ws σ H Q := k
theorem x_rng1 {R : It → Hp → Prop} (k : tl σ H fun vs H1 => Rng1G vs H1 R) : iRng1Q tl σ H R := k
theorem x_rng2 {R : It → Hp → Prop} (k : tl σ H fun vs H1 => Rng2G vs H1 R) : iRng2Q tl σ H R := k
theorem x_rng1g {n : Int} {R : It → Hp → Prop} (h : 0 ≤ n ∧ n ≤ 1000000) (k : R (Itr 0 n.toNat) H) : Rng1G [.int n] H R := ⟨n, rfl, by omega, by omega, k⟩
theorem x_ilist {R : It → Hp → Prop} (k : te σ H fun x H1 => ItLG K x H1 R) : iListQ K te σ H R := k
theorem x_itl {R : It → Hp → Prop} (h : H a = some (.lst xs)) (k : R (Itl K a) H) : ItLG K (.ref a) H R := ⟨a, rfl, ⟨xs, SqL.of h⟩, k⟩
-- branches
theorem x_t {A B : Prop} (h : A) : if true = true then A else B := by rw [if_pos rfl]; exact h
theorem x_f {A B : Prop} (h : B) : if false = true then A else B := by rw [if_neg Bool.false_ne_true]; exact h
theorem x_nt {A B : Prop} (h : B) : if (!true) = true then A else B := x_f h
theorem x_nf {A B : Prop} (h : A) : if (!false) = true then A else B := x_t h
theorem x_nnt {A B : Prop} (h : A) : if (!(!true)) = true then A else B := x_t h
theorem x_nnf {A B : Prop} (h : B) : if (!(!false)) = true then A else B := x_f h
theorem x_dt {p A B : Prop} [Decidable p] (c : p) (h : A) : if decide p = true then A else B := by rw [if_pos (decide_eq_true c)]; exact h
theorem x_df {p A B : Prop} [Decidable p] (c : ¬ p) (h : B) : if decide p = true then A else B := by rw [if_neg (by simp [c])]; exact h
theorem x_ndt {p A B : Prop} [Decidable p] (c : p) (h : B) : if (!decide p) = true then A else B := by rw [if_neg (by simp [c])]; exact h
theorem x_ndf {p A B : Prop} [Decidable p] (c : ¬ p) (h : A) : if (!decide p) = true then A else B := by rw [if_pos (by simp [c])]; exact h
theorem x_d2 {p A B : Prop} [Decidable p] (h1 : p → A) (h2 : ¬ p → B) : if decide p = true then A else B := by
  by_cases c : p
  · exact x_dt c (h1 c)
  · exact x_df c (h2 c)
theorem x_nd2 {p A B : Prop} [Decidable p] (h1 : ¬ p → A) (h2 : p → B) : if (!decide p) = true then A else B := by
  by_cases c : p
  · exact x_ndt c (h2 c)
  · exact x_ndf c (h1 c)
theorem x_b2 {b : Bool} {A B : Prop} (h1 : b = true → A) (h2 : b = false → B) : if b = true then A else B := by
  cases b with
  | true => exact x_t (h1 rfl)
  | false => exact x_f (h2 rfl)
theorem x_nb2 {b : Bool} {A B : Prop} (h1 : b = false → A) (h2 : b = true → B) : if (!b) = true then A else B := by
  cases b with
  | true => exact x_nt (h2 rfl)
  | false => exact x_nf (h1 rfl)
end
/-! ### loops and comprehensions -/
section
variable {σ : Stt} {H H1 : Hp} {Q : VK} {K : PySem.W.Frag} {g : TG} {tt : TT} {te : TE} {ws : List Nat} {D : Ends} {tb : TS}
theorem for_rng {n : Nat} (Pv : Nat → Stt → Hp → Prop) (h0 : Pv 0 σ H1)
    (hs : ∀ i σ H, i < n → Pv i σ H → g (.int (i : Int)) σ H fun σ2 H2 => tb { D with nx := Pv (i + 1), ct := Pv (i + 1), bk := D.nx } σ2 H2) (hd : ∀ σ H, Pv n σ H → D.nx σ H) : ForG g tb D σ (Itr 0 n) H1 :=
  for_range (lo := 0) Pv h0 (fun i σ H hi p => by
    have := hs i σ H hi p
    rw [show ((0 : Int) + (i : Int)) = (i : Int) by omega]; exact this) hd
theorem for_lst {a : Addr} (xs : List V) (Pv : Nat → Stt → Hp → Prop) (h0 : Pv 0 σ H1) (hl : ∀ i σ H, i ≤ xs.length → Pv i σ H → H a = some (.lst xs))
    (hs : ∀ i x σ H, xs[i]? = some x → Pv i σ H → g x σ H fun σ2 H2 => tb { D with nx := Pv (i + 1), ct := Pv (i + 1), bk := D.nx } σ2 H2) (hd : ∀ σ H, Pv xs.length σ H → D.nx σ H) : ForG g tb D σ (Itl K a) H1 :=
  for_list (K := K) (a := a) (xs := xs) Pv h0 (fun i σ H hi p => SqL.of (hl i σ H hi p)) hs hd
/-- a comprehension over a range: an invariant -/
theorem lc_rng {n : Nat} (Pv : Addr → Nat → Hp → Prop) (h0 : ∀ Dd, H1 Dd = none → Pv Dd 0 (upd H1 Dd (.lst [])))
    (hs : ∀ Dd i H, H1 Dd = none → i < n → Pv Dd i H → g (.int (i : Int)) (wipe σ ws) H fun σ2 H2 => wipe σ2 ws = wipe σ ws ∧ tt σ2 H2 fun b H3 => if b = true then te σ2 H3 fun y H4 => ∃ acc, H4 Dd = some (.lst acc) ∧ acc.length < sizeLine ∧ Pv Dd (i + 1) (upd H4 Dd (.lst (acc ++ [y]))) else Pv Dd (i + 1) H3)
    (hd : ∀ Dd H, H1 Dd = none → Pv Dd n H → Q (.ref Dd) H) : LcG g tt te ws σ Q (Itr 0 n) H1 := fun Dd hD =>
  lc_range (lo := 0) (n := n) (Qd := fun H => Q (.ref Dd) H) (Pv Dd) (h0 Dd hD) (fun i H hi p => by
    have := hs Dd i H hD hi p
    rw [show ((0 : Int) + (i : Int)) = (i : Int) by omega]; exact this) fun H p => hd Dd H hD p
theorem lc_lst {a : Addr} (xs : List V) (Pv : Addr → Nat → Hp → Prop) (h0 : ∀ Dd, H1 Dd = none → Pv Dd 0 (upd H1 Dd (.lst []))) (hl : ∀ Dd i H, H1 Dd = none → i ≤ xs.length → Pv Dd i H → H a = some (.lst xs))
    (hs : ∀ Dd i x H, H1 Dd = none → xs[i]? = some x → Pv Dd i H → g x (wipe σ ws) H fun σ2 H2 => wipe σ2 ws = wipe σ ws ∧ tt σ2 H2 fun b H3 => if b = true then te σ2 H3 fun y H4 => ∃ acc, H4 Dd = some (.lst acc) ∧ acc.length < sizeLine ∧ Pv Dd (i + 1) (upd H4 Dd (.lst (acc ++ [y]))) else Pv Dd (i + 1) H3)
    (hd : ∀ Dd H, H1 Dd = none → Pv Dd xs.length H → Q (.ref Dd) H) : LcG g tt te ws σ Q (Itl K a) H1 := fun Dd hD =>
  lc_list (K := K) (a := a) (xs := xs) (Qd := fun H => Q (.ref Dd) H) (Pv Dd) (h0 Dd hD) (fun i H hi p => SqL.of (hl Dd i H hD hi p)) (fun i x H hi p => hs Dd i x H hD hi p) fun H p => hd Dd H hD p
/-- what a comprehension that only allocates has made so far -/
def Made (H1 : Hp) (Dd : Addr) (xs : List V) (H : Hp) : Prop := Fr F0 H1 H ∧ H Dd = some (.lst xs)
theorem filt_succ {α : Type} (b : Nat → Bool) (f : Nat → α) (i : Nat) : ((List.range (i + 1)).filter b).map f = ((List.range i).filter b).map f ++ (if b i = true then [f i] else []) := by
  rw [List.range_succ, List.filter_append, List.map_append]
  cases h : b i <;> simp [h]
theorem filt_len {α : Type} (b : Nat → Bool) (f : Nat → α) (i : Nat) : (((List.range i).filter b).map f).length ≤ i := by
  rw [List.length_map]
  exact Nat.le_trans (List.length_filter_le _ _) (by simp)
/-- a comprehension over a range, test and element only allocate -/
theorem lc_rngP {n : Nat} (bf : Nat → Bool) (vf : Nat → V) (hn : n ≤ 100000)
    (hs : ∀ i H (Kv : V → Hp → Prop) (Kn : Hp → Prop), i < n → Fr F0 H1 H → (bf i = true → ∀ H', Fr F0 H H' → Kv (vf i) H') → (bf i = false → ∀ H', Fr F0 H H' → Kn H') →
      g (.int (i : Int)) (wipe σ ws) H fun σ2 H2 => wipe σ2 ws = wipe σ ws ∧ tt σ2 H2 fun b H3 => if b = true then te σ2 H3 Kv else Kn H3)
    (hd : ∀ Dd H, H1 Dd = none → Fr F0 H1 H → H Dd = some (.lst (((List.range n).filter bf).map vf)) → Q (.ref Dd) H) : LcG g tt te ws σ Q (Itr 0 n) H1 := by
  refine lc_rng (fun Dd i H => Made H1 Dd (((List.range i).filter bf).map vf) H) (fun Dd hD => ⟨.new hD, upd_same⟩) (fun Dd i H hD hi p => ?_) (fun Dd H hD p => hd Dd H hD p.1 p.2)
  obtain ⟨p1, p2⟩ := p
  refine hs i H (fun y H4 => ∃ acc, H4 Dd = some (.lst acc) ∧ acc.length < sizeLine ∧ Made H1 Dd _ (upd H4 Dd (.lst (acc ++ [y])))) (fun H3 => Made H1 Dd _ H3) hi p1 (fun hb H' f => ?_) (fun hb H' f => ?_)
  · refine ⟨_, f.at0 p2, Nat.lt_of_le_of_lt (filt_len _ _ _) (Nat.lt_of_lt_of_le hi (sl1000 hn)), (p1.trans f).then_put_new hD, ?_⟩
    rw [filt_succ, if_pos hb]; exact upd_same
  · refine ⟨p1.trans f, ?_⟩
    rw [filt_succ, if_neg (by rw [hb]; exact Bool.false_ne_true), List.append_nil]; exact f.at0 p2
/-- over a list -/
theorem lc_lstP {a : Addr} (xs : List V) (bf : Nat → Bool) (vf : Nat → V) (hn : xs.length ≤ 100000) (ha : H1 a = some (.lst xs))
    (hs : ∀ i x H (Kv : V → Hp → Prop) (Kn : Hp → Prop), xs[i]? = some x → Fr F0 H1 H → (bf i = true → ∀ H', Fr F0 H H' → Kv (vf i) H') → (bf i = false → ∀ H', Fr F0 H H' → Kn H') →
      g x (wipe σ ws) H fun σ2 H2 => wipe σ2 ws = wipe σ ws ∧ tt σ2 H2 fun b H3 => if b = true then te σ2 H3 Kv else Kn H3)
    (hd : ∀ Dd H, H1 Dd = none → Fr F0 H1 H → H Dd = some (.lst (((List.range xs.length).filter bf).map vf)) → Q (.ref Dd) H) : LcG g tt te ws σ Q (Itl K a) H1 := by
  refine lc_lst xs (fun Dd i H => Made H1 Dd (((List.range i).filter bf).map vf) H) (fun Dd hD => ⟨.new hD, upd_same⟩) (fun Dd i H hD hi p => p.1.at0 ha) (fun Dd i x H hD hi p => ?_) (fun Dd H hD p => hd Dd H hD p.1 p.2)
  obtain ⟨p1, p2⟩ := p
  have hlt : i < xs.length := (List.getElem?_eq_some_iff.mp hi).1
  refine hs i x H (fun y H4 => ∃ acc, H4 Dd = some (.lst acc) ∧ acc.length < sizeLine ∧ Made H1 Dd _ (upd H4 Dd (.lst (acc ++ [y])))) (fun H3 => Made H1 Dd _ H3) hi p1 (fun hb H' f => ?_) (fun hb H' f => ?_)
  · refine ⟨_, f.at0 p2, Nat.lt_of_le_of_lt (filt_len _ _ _) (Nat.lt_of_lt_of_le hlt (sl1000 hn)), (p1.trans f).then_put_new hD, ?_⟩
    rw [filt_succ, if_pos hb]; exact upd_same
  · refine ⟨p1.trans f, ?_⟩
    rw [filt_succ, if_neg (by rw [hb]; exact Bool.false_ne_true), List.append_nil]; exact f.at0 p2
theorem lc_yes {σ : Stt} {H : Hp} {A : Bool → Hp → Prop} (k : A true H) : tYes σ H A := k
end

/-! ### further rules -/
section
variable {X : Cx} {x : Str} {e a : Expr} {p p2 q pos : Pos} {ta te : TE}
theorem e_gint {i : Int} (hg : Gl X x) (h : ∃ t, X.mg x = some (.int i t)) (hd : (x == ("__debug__" : Str)) = false := by decide) : PE X (.Name x pos) (tC (.int i)) := by
  obtain ⟨t, h⟩ := h
  exact pe_glob hg h ⟨t, rfl⟩ hd
theorem e_gstr {z : Str} (hg : Gl X x) (h : ∃ t, X.mg x = some (.str z t)) (hd : (x == ("__debug__" : Str)) = false := by decide) : PE X (.Name x pos) (tC (.str z)) := by
  obtain ⟨t, h⟩ := h
  exact pe_glob hg h ⟨t, rfl⟩ hd
theorem e_ty {n : String} (hg : Gl X x) (hm : X.mg x = none) (hv : bootBuiltins x = some (.type n)) (hn : x ≠ "__name__" := by decide) (hd : (x == ("__debug__" : Str)) = false := by decide) : PE X (.Name x pos) (tC (.ty n)) :=
  pe_bltn hg hm hv rfl hn hd
theorem e_cls {c : Addr} (hg : Gl X x) (hm : X.mg x = some (.ref c)) (hd : (x == ("__debug__" : Str)) = false := by decide) : PE X (.Name x pos) (tC (.ref c)) := pe_glob hg hm rfl hd
/-- how many different ones -/
def dcount (ns : List Int) : Nat := (firstMet (fun i => ns.getD i 0) ns.length).length
def LenSetG (K : PySem.W.Frag) (x : V) (H : Hp) (Q : VK) : Prop := ∃ (l : Addr) (ns : List Int), x = .ref l ∧ SqL K H l (ns.map V.int) ∧ ns.length < 64 ∧ Q (.int (dcount ns : Nat)) H
def tLenSet (K : PySem.W.Frag) (ta : TE) : TE := fun σ H Q => ta σ H fun x H1 => LenSetG K x H1 Q
theorem e_lenSet (hc : X.calm = true) (hg : Gl X "len") (hm : X.mg "len" = none) (hg2 : Gl X "set") (hm2 : X.mg "set" = none) (ha : PE X a ta)
    (na : starEach [a] X.env = (false, eval a X.env) :: starEach [] X.env := by rfl) : PE X (.Call (.Name "len" p) [.Call (.Name "set" p2) [a] [] q] [] pos) (tLenSet X.K ta) := by
  refine ⟨fun pn s σ H Qk J hw => ?_⟩
  refine Call_ (ld_blt J hg hm PySem.boot_len (PyProof.Rows.callWith_builtin1 (PyProof.Rows.args_cons ?_ rfl) rfl rfl))
  refine Call_ (ld_blt J hg2 hm2 PyProof.Rows.boot_set (PyProof.Rows.callWith_type1 (PyProof.Rows.args_cons (thn (ha.run pn s σ H _ J hw) ?_) na) na rfl))
  rintro v sa ⟨y, Ha, Ja, ry, l, ns, rfl, hq, hlt, goal⟩
  refine PyProof.Rows.args_nil ?_
  cases ry
  obtain ⟨its, r, pl, -⟩ := Ja.list hq
  have size : its.toArray.size = ns.length := by rw [List.size_toArray, ← r.length, List.length_map]
  refine call_set_list (Ja.ok.hd hc) pl.isList (ns := ns) (by simpa using r.ints) (by unfold scanBound; omega) fun hb tk hS hk => PyProof.Rows.args_nil ?_
  rw [size] at hS
  have le := firstMet_length_le (fun i => ns.getD i 0) ns.length
  obtain ⟨o, es, ep, t, ho, hex, hd, -, -, -, hf, hn⟩ := hS
  have Jb : Inv X pn σ Ha { sa with heap := hb, toks := tk } := Ja.kept fun b u z => hk b u (Heap.lt_size z) z
  exact call_len_set ho hex hd hf (by rw [hn]; omega) ⟨.int (dcount ns : Nat), Ha, Jb.tok _, ⟨_, by rw [hn]; rfl⟩, goal⟩
theorem firstMet_mem (val : Nat → Int) : ∀ i k, k ∈ firstMet val i ↔ ∃ j, j < i ∧ val j = k
  | 0, k => by simp [firstMet_zero]
  | i + 1, k => by
    have ih := firstMet_mem val i
    have step : k ∈ step_dedup (firstMet val i) (val i) ↔ k ∈ firstMet val i ∨ k = val i := by
      unfold step_dedup
      split
      · rename_i h
        obtain ⟨z, hz, e⟩ := List.any_eq_true.mp h
        have e' : z = val i := by simpa using e
        constructor
        · exact .inl
        · rintro (m | rfl)
          · exact m
          · rw [← e']; exact hz
      · simp [List.mem_append]
    rw [firstMet_succ, step, ih k]
    constructor
    · rintro (⟨j, hj, e⟩ | rfl)
      · exact ⟨j, by omega, e⟩
      · exact ⟨i, by omega, rfl⟩
    · rintro ⟨j, hj, e⟩
      by_cases z : j = i
      · subst z; exact .inr e.symm
      · exact .inl ⟨j, by omega, e⟩
theorem dcount_le (ns : List Int) : dcount ns ≤ ns.length := firstMet_length_le _ _
theorem firstMet_nd (val : Nat → Int) : ∀ i, (firstMet val i).length = i → ∀ a b, a < i → b < i → val a = val b → a = b
  | 0, _, a, b, h, _, _ => by omega
  | i + 1, e, a, b, ha, hb, q => by
    rw [firstMet_succ, step_length] at e
    have le := firstMet_length_le val i
    split at e
    · omega
    · rename_i h
      have el : (firstMet val i).length = i := by omega
      have no : ∀ j, j < i → val j ≠ val i := fun j hj z => h (List.any_eq_true.mpr ⟨val j, (firstMet_mem val i (val j)).mpr ⟨j, hj, rfl⟩, by simpa using z⟩)
      by_cases z1 : a = i
      · by_cases z2 : b = i
        · omega
        · subst z1; exact absurd q.symm (no b (by omega))
      · by_cases z2 : b = i
        · subst z2; exact absurd q (no a (by omega))
        · exact firstMet_nd val i el a b (by omega) (by omega) q
/-- as many different ones as there are: no two alike -/
theorem nodup_of_dcount {ns : List Int} (h : ¬ (dcount ns : Int) < (ns.length : Int)) : ns.Nodup := by
  have e : dcount ns = ns.length := by have := dcount_le ns; omega
  have nd := firstMet_nd (fun i => ns.getD i 0) ns.length e
  refine List.pairwise_iff_getElem.mpr fun i j hi hj hij z => ?_
  have := nd i j hi hj (by
    show ns.getD i 0 = ns.getD j 0
    rw [List.getD_eq_getElem?_getD, List.getD_eq_getElem?_getD, List.getElem?_eq_getElem hi, List.getElem?_eq_getElem hj, z])
  omega
theorem dcount_of_nodup {ns : List Int} (h : ns.Nodup) : dcount ns = ns.length := by
  unfold dcount
  rw [firstMet_nodup ns h ns.length (Nat.le_refl _), List.take_length]
def rMin2 : List V → Hp → VK → Prop := fun xs H Q => ∃ i j, xs = [.int i, .int j] ∧ Q (.int (if j < i then j else i)) H
def rMax2 : List V → Hp → VK → Prop := fun xs H Q => ∃ i j, xs = [.int i, .int j] ∧ Q (.int (if j > i then j else i)) H
theorem c_min2 (hc : X.calm = true) : CallR X (.builtin "min") rMin2 := call_min2 hc
theorem c_max2 (hc : X.calm = true) : CallR X (.builtin "max") rMax2 := call_max2 hc
/-- list(range(n)) -/
def LRgG (x : V) (H : Hp) (Q : VK) : Prop := ∃ n : Int, x = .int n ∧ RgOk 0 n ∧ ∀ q, H q = none → Q (.ref q) (upd H q (.lst (rgV 0 n)))
def tLRg (ta : TE) : TE := fun σ H Q => ta σ H fun x H1 => LRgG x H1 Q
theorem rgV0 (n : Int) : rgV 0 n = (List.range n.toNat).map fun (i : Nat) => V.int (i : Int) := by
  unfold rgV
  rw [Int.sub_zero]
  refine List.map_congr_left fun i _ => ?_
  rw [Int.zero_add]
theorem x_lrg {σ : Stt} {H : Hp} {Q : VK} (k : ta σ H fun x H1 => LRgG x H1 Q) : tLRg ta σ H Q := k
theorem x_lrgg {H : Hp} {Q : VK} {n : Int} (h : 0 ≤ n ∧ n ≤ 100000) (k : ∀ q, H q = none → Q (.ref q) (upd H q (.lst ((List.range n.toNat).map fun (i : Nat) => V.int (i : Int))))) : LRgG (.int n) H Q :=
  ⟨n, rfl, ⟨by omega, by omega, by omega, by omega, by omega⟩, by rw [rgV0]; exact k⟩
theorem e_lrg (hc : X.calm = true) (hg : Gl X "list") (hm : X.mg "list" = none) (hg2 : Gl X "range") (hm2 : X.mg "range" = none) (ha : PE X a ta) (na : starEach [a] X.env = (false, eval a X.env) :: starEach [] X.env := by rfl)
    (nb : starEach [.Call (.Name "range" p2) [a] [] q] X.env = (false, eval (.Call (.Name "range" p2) [a] [] q) X.env) :: starEach [] X.env := by rfl) : PE X (.Call (.Name "list" p) [.Call (.Name "range" p2) [a] [] q] [] pos) (tLRg ta) :=
  pe_listRg (p := p) (pos := pos) hc hg hm (prg_1 (p := p2) (pos := q) hg2 hm2 ha na) nb
theorem x_lenSet {σ : Stt} {H : Hp} {Q : VK} {K : PySem.W.Frag} (k : ta σ H fun x H1 => LenSetG K x H1 Q) : tLenSet K ta σ H Q := k
theorem x_lenSetg {H : Hp} {Q : VK} {K : PySem.W.Frag} {l : Addr} {ns : List Int} (h : H l = some (.lst (ns.map V.int))) (hn : ns.length < 64) (k : Q (.int (dcount ns : Nat)) H) : LenSetG K (.ref l) H Q := ⟨l, ns, rfl, SqL.of h, hn, k⟩
end
theorem ne_new {H : Hp} {p q : Addr} {o : HO} (h' : H q = none) (h : H p = some o) : p ≠ q := ne_of_none h h'
section
variable {H : Hp} {Q : VK} {K : PySem.W.Frag} {T : String} {b : Bool}
theorem x_isi {x : V} {c : String} (ty : TyX K H x (.type c)) (e : kitB c T = some b) (k : Q (.bl b) H) : rIsi K [x, .ty T] H Q := ⟨x, .ty T, .type c, .type T, b, rfl, .ty T, ty, kit_ty e, k⟩
theorem x_isiII {i : Int} (k : Q (.bl true) H) : rIsi K [.int i, .ty "int"] H Q := x_isi (.base (.int i)) (by decide +kernel) k
theorem x_isiIB {i : Int} (k : Q (.bl false) H) : rIsi K [.int i, .ty "bool"] H Q := x_isi (.base (.int i)) (by decide +kernel) k
theorem x_isiBI {i : Bool} (k : Q (.bl true) H) : rIsi K [.bl i, .ty "int"] H Q := x_isi (.base (.bl i)) (by decide +kernel) k
theorem x_isiBB {i : Bool} (k : Q (.bl true) H) : rIsi K [.bl i, .ty "bool"] H Q := x_isi (.base (.bl i)) (by decide +kernel) k
theorem x_isiNI (k : Q (.bl false) H) : rIsi K [.non, .ty "int"] H Q := x_isi (.base .non) (by decide +kernel) k
theorem x_isiNL (k : Q (.bl false) H) : rIsi K [.non, .ty "list"] H Q := x_isi (.base .non) (by decide +kernel) k
theorem x_isiIL {i : Int} (k : Q (.bl false) H) : rIsi K [.int i, .ty "list"] H Q := x_isi (.base (.int i)) (by decide +kernel) k
theorem x_isiSI {i : Str} (k : Q (.bl false) H) : rIsi K [.str i, .ty "int"] H Q := x_isi (.base (.str i)) (by decide +kernel) k
theorem x_isiSL {i : Str} (k : Q (.bl false) H) : rIsi K [.str i, .ty "list"] H Q := x_isi (.base (.str i)) (by decide +kernel) k
theorem x_isiLL {a : Addr} {xs : List V} (h : H a = some (.lst xs)) (k : Q (.bl true) H) : rIsi K [.ref a, .ty "list"] H Q := x_isi (.base (.lst h)) (by decide +kernel) k
theorem x_isiLI {a : Addr} {xs : List V} (h : H a = some (.lst xs)) (k : Q (.bl false) H) : rIsi K [.ref a, .ty "int"] H Q := x_isi (.base (.lst h)) (by decide +kernel) k
theorem x_isiTL {a : Addr} {xs : List V} (h : H a = some (.tup xs)) (k : Q (.bl false) H) : rIsi K [.ref a, .ty "list"] H Q := x_isi (.base (.tup h)) (by decide +kernel) k
theorem x_isiTT {a : Addr} {xs : List V} (h : H a = some (.tup xs)) (k : Q (.bl true) H) : rIsi K [.ref a, .ty "tuple"] H Q := x_isi (.base (.tup h)) (by decide +kernel) k
theorem x_isiLT {a : Addr} {xs : List V} (h : H a = some (.lst xs)) (k : Q (.bl false) H) : rIsi K [.ref a, .ty "tuple"] H Q := x_isi (.base (.lst h)) (by decide +kernel) k
end
/-! ### == of lists -/
theorem eqvAll_map {α : Type} [DecidableEq α] (f : α → PyData) (hf : ∀ a b, PyData.eqv (f a) (f b) = decide (a = b)) : ∀ xs ys : List α, PyData.eqvAll (xs.map f) (ys.map f) = decide (xs = ys)
  | [], [] => by simp [PyData.eqvAll]
  | [], y :: ys => by simp [PyData.eqvAll]
  | x :: xs, [] => by simp [PyData.eqvAll]
  | x :: xs, y :: ys => by
    rw [List.map_cons, List.map_cons, PyData.eqvAll, hf, eqvAll_map f hf xs ys]
    by_cases h1 : x = y <;> by_cases h2 : xs = ys <;> simp [h1, h2]
theorem lay_map {α : Type} (f : α → PyData) (hf : ∀ a, (f a).canLay0 = true) : ∀ xs : List α, PyData.canLayAll0 (xs.map f) = true
  | [] => rfl
  | x :: xs => by rw [List.map_cons, PyData.canLayAll0, hf, lay_map f hf xs]; rfl
theorem depth_map {α : Type} (f : α → PyData) {n : Nat} (hf : ∀ a, (f a).depth ≤ n) : ∀ xs : List α, PyData.depthAll (xs.map f) ≤ n
  | [] => Nat.zero_le _
  | x :: xs => by
    rw [List.map_cons, PyData.depthAll]
    exact Nat.max_le.mpr ⟨hf x, depth_map f hf xs⟩
/-- how things of a kind lie as data -/
structure Enc (α : Type) [DecidableEq α] where
  f : α → PyData
  eq : ∀ a b, PyData.eqv (f a) (f b) = decide (a = b)
  lay : ∀ a, (f a).canLay0 = true
  dep : ∀ a, (f a).depth ≤ 20
theorem Enc.shaped {α : Type} [DecidableEq α] (e : Enc α) (xs : List α) : SeqAt.shaped (.list (xs.map e.f)) = true := by
  unfold SeqAt.shaped
  rw [PyData.canLay0, lay_map e.f e.lay]
  refine (Bool.true_and _).trans (decide_eq_true ?_)
  rw [PyData.depth]
  have := depth_map e.f e.dep xs
  omega
def encInt : Enc Int := ⟨.int, fun a b => by simp [PyData.eqv, Bool.beq_eq_decide_eq], fun _ => rfl, fun _ => Nat.zero_le _⟩
/-- at x is a list of such things -/
def LstD (K : PySem.W.Frag) (H : Hp) (x : V) (ds : List PyData) : Prop := ∃ a vs, x = .ref a ∧ SqL K H a vs ∧ DpAll K H vs ds
section
variable {H : Hp} {Q : VK} {K : PySem.W.Frag} {x y : V} {α : Type} [DecidableEq α]
theorem x_eqL (e : Enc α) {xs ys : List α} (hx : LstD K H x (xs.map e.f)) (hy : LstD K H y (ys.map e.f)) (k : Q (.bl (decide (xs = ys))) H) : rEqD K x y H Q := by
  obtain ⟨a, vs, rfl, h1, h2⟩ := hx
  obtain ⟨b, ws, rfl, h3, h4⟩ := hy
  refine ⟨_, _, .lst h1 h2, .lst h3 h4, e.shaped xs, e.shaped ys, ?_⟩
  rw [PyData.eqv, eqvAll_map e.f e.eq]; exact k
theorem x_neL (e : Enc α) {xs ys : List α} (hx : LstD K H x (xs.map e.f)) (hy : LstD K H y (ys.map e.f)) (k : Q (.bl (!decide (xs = ys))) H) : rNeD K x y H Q := by
  obtain ⟨a, vs, rfl, h1, h2⟩ := hx
  obtain ⟨b, ws, rfl, h3, h4⟩ := hy
  refine ⟨_, _, .lst h1 h2, .lst h3 h4, e.shaped xs, e.shaped ys, ?_⟩
  rw [PyData.eqv, eqvAll_map e.f e.eq]; exact k
theorem dp_ints : ∀ ns : List Int, DpAll K H (ns.map V.int) (ns.map encInt.f)
  | [] => .nil
  | n :: ns => .cons (.int n) (dp_ints ns)
theorem lst_ints {a : Addr} {ns : List Int} (h : SqL K H a (ns.map V.int)) : LstD K H (.ref a) (ns.map encInt.f) := ⟨a, _, rfl, h, dp_ints ns⟩
theorem lst_nil {a : Addr} (e : Enc α) (h : H a = some (.lst [])) : LstD K H (.ref a) (([] : List α).map e.f) := ⟨a, [], rfl, SqL.of h, .nil⟩
end

theorem map_ix {α β : Type} {f : α → β} {xs : List α} {i : Nat} {x : α} (h : xs[i]? = some x) : (xs.map f)[i]? = some (f x) := by rw [List.getElem?_map, h]; rfl
theorem map_set {α β : Type} (f : α → β) (xs : List α) (i : Nat) (x : α) : (xs.map f).set i (f x) = (xs.set i x).map f := by
  rw [List.map_set]
theorem mod_nat {n : Int} {L : Nat} (h : 0 < L) : ∃ i : Nat, n % (L : Int) = (i : Int) ∧ i < L := by
  refine ⟨(n % (L : Int)).toNat, ?_, ?_⟩
  · have := Int.emod_nonneg n (show (L : Int) ≠ 0 by omega); omega
  · have := Int.emod_nonneg n (show (L : Int) ≠ 0 by omega)
    have := Int.emod_lt_of_pos n (show 0 < (L : Int) by omega); omega
theorem at_lt {α : Type} {xs : List α} {i : Nat} (h : i < xs.length) : ∃ x, xs[i]? = some x := ⟨xs[i], List.getElem?_eq_getElem h⟩
theorem lt_at {α : Type} {xs : List α} {i : Nat} {x : α} (h : xs[i]? = some x) : i < xs.length := (List.getElem?_eq_some_iff.mp h).1
/-! ### options, pairs of a word and a number -/
def optV : Option Int → V
  | none => .non
  | some i => .int i
def encOpt : Enc (Option Int) := ⟨fun | none => .none | some i => .int i, fun a b => by cases a <;> cases b <;> simp [PyData.eqv, Bool.beq_eq_decide_eq], fun a => by cases a <;> rfl, fun a => by cases a <;> exact Nat.zero_le _⟩
theorem dp_opts {K : PySem.W.Frag} {H : Hp} : ∀ ns : List (Option Int), DpAll K H (ns.map optV) (ns.map encOpt.f)
  | [] => .nil
  | none :: ns => .cons .non (dp_opts ns)
  | some n :: ns => .cons (.int n) (dp_opts ns)
theorem lst_opts {K : PySem.W.Frag} {H : Hp} {a : Addr} {ns : List (Option Int)} (h : SqL K H a (ns.map optV)) : LstD K H (.ref a) (ns.map encOpt.f) := ⟨a, _, rfl, h, dp_opts ns⟩
abbrev Let := Bool × Int
def wd : Bool → Str
  | false => "name"
  | true => "chosen"
theorem wd_eq {a b : Bool} : (wd a = wd b) ↔ a = b := by cases a <;> cases b <;> simp [wd] <;> decide
def encLet : Enc Let := ⟨fun p => .tuple [.str (wd p.1), .int p.2], fun a b => by
    obtain ⟨a1, a2⟩ := a
    obtain ⟨b1, b2⟩ := b
    simp only [PyData.eqv, PyData.eqvAll, Bool.beq_eq_decide_eq, Bool.and_true, Prod.mk.injEq]
    by_cases h1 : a1 = b1 <;> by_cases h2 : a2 = b2 <;> simp [h1, h2, wd_eq], fun a => by
    obtain ⟨b, i⟩ := a
    cases b <;> simp only [PyData.canLay0, PyData.canLayAll0, wd, Bool.and_true] <;> decide +kernel, fun a => by simp [PyData.depth, PyData.depthAll]⟩
/-- letters at addresses -/
def Lets (H : Hp) : List Addr → List Let → Prop
  | [], [] => True
  | t :: ts, w :: ws => H t = some (.tup [.str (wd w.1), .int w.2]) ∧ Lets H ts ws
  | _, _ => False
theorem Lets.fr {F : Addr → Prop} {H H' : Hp} (f : Fr F H H') : ∀ {ts ws}, Lets H ts ws → Lets H' ts ws
  | [], [], _ => trivial
  | _ :: _, _ :: _, h => ⟨f.tup _ _ h.1, Lets.fr f h.2⟩
theorem Lets.add {H : Hp} {t : Addr} {w : Let} (h1 : H t = some (.tup [.str (wd w.1), .int w.2])) : ∀ {ts ws}, Lets H ts ws → Lets H (ts ++ [t]) (ws ++ [w])
  | [], [], _ => ⟨h1, trivial⟩
  | _ :: _, _ :: _, h => ⟨h.1, Lets.add h1 h.2⟩
theorem Lets.len {H : Hp} : ∀ {ts ws}, Lets H ts ws → ts.length = ws.length
  | [], [], _ => rfl
  | _ :: _, _ :: _, h => by rw [List.length_cons, List.length_cons, Lets.len h.2]
theorem dp_lets {K : PySem.W.Frag} {H : Hp} : ∀ {ts ws}, Lets H ts ws → DpAll K H (ts.map V.ref) (ws.map encLet.f)
  | [], [], _ => .nil
  | _ :: _, _ :: _, h => .cons (.tup (SqT.of h.1) (.cons (.str _) (.cons (.int _) .nil))) (dp_lets h.2)
theorem lst_lets {K : PySem.W.Frag} {H : Hp} {a : Addr} {ts : List Addr} {ws : List Let} (h : H a = some (.lst (ts.map V.ref))) (hl : Lets H ts ws) : LstD K H (.ref a) (ws.map encLet.f) := ⟨a, _, rfl, SqL.of h, dp_lets hl⟩

/-! ### lists of new lists -/
structure NewL (H1 : Hp) (Dd : Addr) (ps : List Addr) (H : Hp) : Prop where
  fr : Fr F0 H1 H
  nd : (Dd :: ps).Nodup
  nw : ∀ p ∈ ps, H1 p = none ∧ H p = some (.lst [])
  at_ : H Dd = some (.lst (ps.map V.ref))
theorem NewL.step {H1 : Hp} {Dd : Addr} {ps : List Addr} {H : Hp} (hD : H1 Dd = none) (h : NewL H1 Dd ps H) {p : Addr} (hp : H p = none) :
    NewL H1 Dd (ps ++ [p]) (upd (upd H p (.lst [])) Dd (.lst (ps.map V.ref ++ [.ref p]))) := by
  have pD : p ≠ Dd := (ne_of_none h.at_ hp).symm
  have pn : ∀ q ∈ ps, q ≠ p := fun q hq => ne_of_none (h.nw q hq).2 hp
  have nd := h.nd
  rw [List.nodup_cons] at nd
  refine ⟨(h.fr.trans (.new hp)).then_put_new hD, ?_, fun q hq => ?_, by rw [List.map_append]; exact upd_same⟩
  · rw [List.nodup_cons, List.mem_append, List.nodup_append]
    refine ⟨fun z => ?_, nd.2, by simp, fun a ha b hb => ?_⟩
    · rcases z with z | z
      · exact nd.1 z
      · exact pD (List.mem_singleton.mp z).symm
    · rw [List.mem_singleton] at hb; subst hb
      exact pn a ha
  · rcases List.mem_append.mp hq with z | z
    · exact ⟨(h.nw q z).1, upd_at (upd_at (h.nw q z).2 (pn q z)) (fun e => nd.1 (e ▸ z))⟩
    · rw [List.mem_singleton] at z; subst z
      exact ⟨h.fr.back0 hp, upd_at upd_same pD⟩
section
variable {σ : Stt} {H H1 : Hp} {Q : VK} {K : PySem.W.Frag} {j : Nat}
theorem lc_rngN {n : Nat} (hn : n ≤ 100000) (hw : ∀ x, wipe ((wipe σ [j]).set j (some x)) [j] = wipe σ [j])
    (hd : ∀ Dd ps H, H1 Dd = none → ps.length = n → NewL H1 Dd ps H → Q (.ref Dd) H) : LcG (gName j) tYes (tLstQ tNil) [j] σ Q (Itr 0 n) H1 := by
  refine lc_rng (fun Dd i H => ∃ ps, ps.length = i ∧ NewL H1 Dd ps H) (fun Dd hD => ⟨[], rfl, .new hD, by simp, by simp, upd_same⟩) (fun Dd i H hD hi p => ?_) (fun Dd H hD p => ?_)
  · obtain ⟨ps, e, q⟩ := p
    refine ⟨hw _, lc_yes (x_t ?_)⟩
    refine x_lst (x_nil (x_new (Nat.le_of_ble_eq_true rfl) fun p hp => ?_))
    exact ⟨_, upd_at q.at_ (ne_of_none q.at_ hp), by rw [List.length_map]; exact Nat.lt_of_lt_of_le (show ps.length < n by omega) (sl1000 hn), ps ++ [p], by simp [e], q.step hD hp⟩
  · obtain ⟨ps, e, q⟩ := p
    exact hd Dd ps H hD e q
theorem lc_lstN {a : Addr} {xs : List V} (ha : H1 a = some (.lst xs)) (hn : xs.length ≤ 100000) (hw : ∀ x, wipe ((wipe σ [j]).set j (some x)) [j] = wipe σ [j])
    (hd : ∀ Dd ps H, H1 Dd = none → ps.length = xs.length → NewL H1 Dd ps H → Q (.ref Dd) H) : LcG (gName j) tYes (tLstQ tNil) [j] σ Q (Itl K a) H1 := by
  refine lc_lst xs (fun Dd i H => ∃ ps, ps.length = i ∧ NewL H1 Dd ps H) (fun Dd hD => ⟨[], rfl, .new hD, by simp, by simp, upd_same⟩) (fun Dd i H hD hi ⟨ps, e, q⟩ => q.fr.at0 ha) (fun Dd i x H hD hx p => ?_) (fun Dd H hD p => ?_)
  · obtain ⟨ps, e, q⟩ := p
    have := lt_at hx
    refine ⟨hw _, lc_yes (x_t ?_)⟩
    refine x_lst (x_nil (x_new (Nat.le_of_ble_eq_true rfl) fun p hp => ?_))
    exact ⟨_, upd_at q.at_ (ne_of_none q.at_ hp), by rw [List.length_map]; exact Nat.lt_of_lt_of_le (show ps.length < xs.length by omega) (sl1000 hn), ps ++ [p], by simp [e], q.step hD hp⟩
  · obtain ⟨ps, e, q⟩ := p
    exact hd Dd ps H hD e q
theorem x_all {a : Addr} {bs : List Bool} (h : H a = some (.lst (bs.map V.bl))) (k : Q (.bl (bs.all id)) H) : rAll K [.ref a] H Q := ⟨a, bs, rfl, SqL.of h, k⟩
theorem x_any {a : Addr} {bs : List Bool} (h : H a = some (.lst (bs.map V.bl))) (k : Q (.bl (bs.any id)) H) : rAny K [.ref a] H Q := ⟨a, bs, rfl, SqL.of h, k⟩
theorem x_sum {a : Addr} {ns : List Int} (h : H a = some (.lst (ns.map V.int))) (k : Q (.int ns.sum) H) : rSum K [.ref a] H Q := ⟨a, ns, rfl, SqL.of h, k⟩
theorem rep_one {α : Type} (x : α) : ∀ n : Nat, (List.replicate n [x]).flatten = List.replicate n x
  | 0 => rfl
  | n + 1 => by rw [List.replicate_succ, List.flatten_cons, rep_one x n]; rfl
theorem x_rep1 {a : Addr} {n : Nat} {x : V} (h : H a = some (.lst [x])) (hn : n ≤ 1000) (k : ∀ p, H p = none → Q (.ref p) (upd H p (.lst (List.replicate n x)))) : rRep (.ref a) (.int n) H Q :=
  x_rep h ⟨by omega, by omega⟩ (by simp) fun p hp => by
    have := k p hp
    rw [Int.toNat_natCast, rep_one]; exact this
theorem map_rep {α β : Type} (f : α → β) (n : Nat) (x : α) : List.replicate n (f x) = (List.replicate n x).map f := by simp
theorem filt_all {n : Nat} : (List.range n).filter (fun _ => true) = List.range n := List.filter_eq_self.mpr (by simp)
end
/-! ### joins -/
theorem x_ifj {t : TT} {tu tw : TS} {D : Ends} {σ : Stt} {H : Hp} (P : Stt → Hp → Prop) (h2 : ∀ N, (∀ σ H, P σ H → N σ H) → tIfS t tu tw { D with nx := N } σ H) (h1 : ∀ σ H, P σ H → D.nx σ H) : tIfS t tu tw D σ H := h2 D.nx h1
theorem x_tj {t : TT} {σ : Stt} {H : Hp} {QT : Bool → Hp → Prop} (P : Bool → Hp → Prop) (h2 : ∀ Q, (∀ b H, P b H → Q b H) → t σ H Q) (h1 : ∀ b H, P b H → QT b H) : t σ H QT := h2 QT h1
theorem x_ej {t : TE} {σ : Stt} {H : Hp} {Q : VK} (P : V → Hp → Prop) (h2 : ∀ Q, (∀ v H, P v H → Q v H) → t σ H Q) (h1 : ∀ v H, P v H → Q v H) : t σ H Q := h2 Q h1
theorem x_sj {ts : TS} {D : Ends} {σ : Stt} {H : Hp} (P : Stt → Hp → Prop) (h2 : ∀ N, (∀ σ H, P σ H → N σ H) → ts { D with nx := N } σ H) (h1 : ∀ σ H, P σ H → D.nx σ H) : ts D σ H := h2 D.nx h1
theorem range_getD {α β : Type} (f : α → β) (d : α) : ∀ xs : List α, (List.range xs.length).map (fun i => f (xs.getD i d)) = xs.map f := fun xs => by
  refine List.ext_getElem? fun i => ?_
  rw [List.getElem?_map, List.getElem?_map]
  by_cases c : i < xs.length
  · rw [List.getElem?_range c, List.getElem?_eq_getElem c]
    simp [List.getD_eq_getElem?_getD, List.getElem?_eq_getElem c]
  · rw [List.getElem?_eq_none (by simpa using c), List.getElem?_eq_none (by simpa using c)]; rfl

/-! ### the text by places -/
def top (i : Nat) : Stmt := PySem.Challenge.pw_quietnet_k27_whole_choice_letters.main.body.getD i (.Pass ⟨0, 0, 0, 0⟩)
abbrev s_is_whole : Stmt := top 6
abbrev s_Choice_init : Stmt := inClass (top 10) 0
abbrev s_Choice_look_place : Stmt := inClass (top 10) 1
abbrev s_Choice_put : Stmt := inClass (top 10) 2
abbrev s_Choice_begin : Stmt := inClass (top 10) 3
abbrev s_Choice_come : Stmt := inClass (top 10) 4
abbrev s_Choice_heard : Stmt := inClass (top 10) 5
abbrev s_Choice_told : Stmt := inClass (top 10) 6
abbrev s_Choice_letters : Stmt := inClass (top 10) 7
abbrev s_Choice_ways : Stmt := inClass (top 10) 8
abbrev s__law_town : Stmt := top 12
abbrev s__law_draw : Stmt := top 13
abbrev s__law_pick : Stmt := top 14
abbrev s__law_begun : Stmt := top 15
abbrev s__law_arrive : Stmt := top 16
abbrev s_law : Stmt := top 17
abbrev cl_NetError (K : PySem.W.Frag) : Addr := He.ga K "NetError"
abbrev cl_BadNumber (K : PySem.W.Frag) : Addr := He.ga K "BadNumber"
abbrev cl_NoHand (K : PySem.W.Frag) : Addr := He.ga K "NoHand"
abbrev cl_NoLetter (K : PySem.W.Frag) : Addr := He.ga K "NoLetter"
abbrev cl_NotNow (K : PySem.W.Frag) : Addr := He.ga K "NotNow"
abbrev cl_Choice (K : PySem.W.Frag) : Addr := He.ga K "Choice"
def d_is_whole : He.DefD := ⟨("is_whole", none), "is_whole", "is_whole", defArgs s_is_whole, defBody s_is_whole, defScope s_is_whole, [], []⟩
def d__law_town : He.DefD := ⟨("_law_town", none), "_law_town", "_law_town", defArgs s__law_town, defBody s__law_town, defScope s__law_town, [], []⟩
def d__law_draw : He.DefD := ⟨("_law_draw", none), "_law_draw", "_law_draw", defArgs s__law_draw, defBody s__law_draw, defScope s__law_draw, [], []⟩
def d__law_pick : He.DefD := ⟨("_law_pick", none), "_law_pick", "_law_pick", defArgs s__law_pick, defBody s__law_pick, defScope s__law_pick, [], []⟩
def d__law_begun : He.DefD := ⟨("_law_begun", none), "_law_begun", "_law_begun", defArgs s__law_begun, defBody s__law_begun, defScope s__law_begun, [], []⟩
def d__law_arrive : He.DefD := ⟨("_law_arrive", none), "_law_arrive", "_law_arrive", defArgs s__law_arrive, defBody s__law_arrive, defScope s__law_arrive, [], []⟩
def d_law : He.DefD := ⟨("law", none), "law", "law", defArgs s_law, defBody s_law, defScope s_law, [], []⟩
def d_Choice_init : He.DefD := ⟨("Choice", some "__init__"), "__init__", "Choice.__init__", defArgs s_Choice_init, defBody s_Choice_init, defScope s_Choice_init, [], []⟩
def d_Choice_look_place : He.DefD := ⟨("Choice", some "look_place"), "look_place", "Choice.look_place", defArgs s_Choice_look_place, defBody s_Choice_look_place, defScope s_Choice_look_place, [], []⟩
def d_Choice_put : He.DefD := ⟨("Choice", some "put"), "put", "Choice.put", defArgs s_Choice_put, defBody s_Choice_put, defScope s_Choice_put, [], []⟩
def d_Choice_begin : He.DefD := ⟨("Choice", some "begin"), "begin", "Choice.begin", defArgs s_Choice_begin, defBody s_Choice_begin, defScope s_Choice_begin, [], []⟩
def d_Choice_come : He.DefD := ⟨("Choice", some "come"), "come", "Choice.come", defArgs s_Choice_come, defBody s_Choice_come, defScope s_Choice_come, [], []⟩
def d_Choice_heard : He.DefD := ⟨("Choice", some "heard"), "heard", "Choice.heard", defArgs s_Choice_heard, defBody s_Choice_heard, defScope s_Choice_heard, [], []⟩
def d_Choice_told : He.DefD := ⟨("Choice", some "told"), "told", "Choice.told", defArgs s_Choice_told, defBody s_Choice_told, defScope s_Choice_told, [], []⟩
def d_Choice_letters : He.DefD := ⟨("Choice", some "letters"), "letters", "Choice.letters", defArgs s_Choice_letters, defBody s_Choice_letters, defScope s_Choice_letters, [], []⟩
def d_Choice_ways : He.DefD := ⟨("Choice", some "ways"), "ways", "Choice.ways", defArgs s_Choice_ways, defBody s_Choice_ways, defScope s_Choice_ways, [], []⟩
def fn : List He.DefD := [d_is_whole, d__law_town, d__law_draw, d__law_pick, d__law_begun, d__law_arrive, d_law, d_Choice_init, d_Choice_look_place, d_Choice_put, d_Choice_begin, d_Choice_come, d_Choice_heard, d_Choice_told, d_Choice_letters, d_Choice_ways]
def fa : List He.Fa := [.glo "NetError",
  .glo "BadNumber",
  .glo "NoHand",
  .glo "NoLetter",
  .glo "NotNow",
  .glo "is_whole",
  .int "MOST_NAME" 999,
  .int "MOST_PLACES" 10,
  .glo "Choice",
  .glo "_law_town",
  .glo "_law_draw",
  .glo "_law_pick",
  .glo "_law_begun",
  .glo "_law_arrive",
  .glo "law",
  .free "range",
  .free "isinstance",
  .free "int",
  .free "list",
  .free "len",
  .free "bool",
  .free "set",
  .free "all",
  .cls "Choice",
  .mkr "Choice",
  .noat "Choice" "names",
  .noat "Choice" "active",
  .noat "Choice" "known",
  .noat "Choice" "rows",
  .noat "Choice" "sent"] ++ [.meth "Choice" "__init__",
  .meth "Choice" "look_place",
  .meth "Choice" "put",
  .meth "Choice" "begin",
  .meth "Choice" "come",
  .meth "Choice" "heard",
  .meth "Choice" "told",
  .meth "Choice" "letters",
  .meth "Choice" "ways"]
/-! ### what the top has left -/
structure Wd (G : En) : Prop where
  g_NetError : G.mg "NetError" = some (.ref (He.ga G.K "NetError"))
  g_BadNumber : G.mg "BadNumber" = some (.ref (He.ga G.K "BadNumber"))
  g_NoHand : G.mg "NoHand" = some (.ref (He.ga G.K "NoHand"))
  g_NoLetter : G.mg "NoLetter" = some (.ref (He.ga G.K "NoLetter"))
  g_NotNow : G.mg "NotNow" = some (.ref (He.ga G.K "NotNow"))
  g_is_whole : G.mg "is_whole" = some (.ref (He.ga G.K "is_whole"))
  k_MOST_NAME : ∃ t, G.mg "MOST_NAME" = some (.int 999 t)
  k_MOST_PLACES : ∃ t, G.mg "MOST_PLACES" = some (.int 10 t)
  g_Choice : G.mg "Choice" = some (.ref (He.ga G.K "Choice"))
  g__law_town : G.mg "_law_town" = some (.ref (He.ga G.K "_law_town"))
  g__law_draw : G.mg "_law_draw" = some (.ref (He.ga G.K "_law_draw"))
  g__law_pick : G.mg "_law_pick" = some (.ref (He.ga G.K "_law_pick"))
  g__law_begun : G.mg "_law_begun" = some (.ref (He.ga G.K "_law_begun"))
  g__law_arrive : G.mg "_law_arrive" = some (.ref (He.ga G.K "_law_arrive"))
  g_law : G.mg "law" = some (.ref (He.ga G.K "law"))
  z_range : G.mg "range" = none
  z_isinstance : G.mg "isinstance" = none
  z_int : G.mg "int" = none
  z_list : G.mg "list" = none
  z_len : G.mg "len" = none
  z_bool : G.mg "bool" = none
  z_set : G.mg "set" = none
  z_all : G.mg "all" = none
  c_Choice : Cls G.K (cl_Choice G.K)
  mk_Choice : Mk G.K (cl_Choice G.K) (He.ma G.K (cl_Choice G.K) "__init__")
  na_Choice_names : NoAttr G.K (cl_Choice G.K) "names"
  na_Choice_active : NoAttr G.K (cl_Choice G.K) "active"
  na_Choice_known : NoAttr G.K (cl_Choice G.K) "known"
  na_Choice_rows : NoAttr G.K (cl_Choice G.K) "rows"
  na_Choice_sent : NoAttr G.K (cl_Choice G.K) "sent"
  m_Choice_init : Meth G.K (cl_Choice G.K) "__init__" (He.ma G.K (cl_Choice G.K) "__init__")
  m_Choice_look_place : Meth G.K (cl_Choice G.K) "look_place" (He.ma G.K (cl_Choice G.K) "look_place")
  m_Choice_put : Meth G.K (cl_Choice G.K) "put" (He.ma G.K (cl_Choice G.K) "put")
  m_Choice_begin : Meth G.K (cl_Choice G.K) "begin" (He.ma G.K (cl_Choice G.K) "begin")
  m_Choice_come : Meth G.K (cl_Choice G.K) "come" (He.ma G.K (cl_Choice G.K) "come")
  m_Choice_heard : Meth G.K (cl_Choice G.K) "heard" (He.ma G.K (cl_Choice G.K) "heard")
  m_Choice_told : Meth G.K (cl_Choice G.K) "told" (He.ma G.K (cl_Choice G.K) "told")
  m_Choice_letters : Meth G.K (cl_Choice G.K) "letters" (He.ma G.K (cl_Choice G.K) "letters")
  m_Choice_ways : Meth G.K (cl_Choice G.K) "ways" (He.ma G.K (cl_Choice G.K) "ways")
  f_is_whole : ∃ fd, FnP G.K "is_whole" "is_whole" s_is_whole [] (He.ga G.K "is_whole") fd
  f__law_town : ∃ fd, FnP G.K "_law_town" "_law_town" s__law_town [] (He.ga G.K "_law_town") fd
  f__law_draw : ∃ fd, FnP G.K "_law_draw" "_law_draw" s__law_draw [] (He.ga G.K "_law_draw") fd
  f__law_pick : ∃ fd, FnP G.K "_law_pick" "_law_pick" s__law_pick [] (He.ga G.K "_law_pick") fd
  f__law_begun : ∃ fd, FnP G.K "_law_begun" "_law_begun" s__law_begun [] (He.ga G.K "_law_begun") fd
  f__law_arrive : ∃ fd, FnP G.K "_law_arrive" "_law_arrive" s__law_arrive [] (He.ga G.K "_law_arrive") fd
  f_law : ∃ fd, FnP G.K "law" "law" s_law [] (He.ga G.K "law") fd
  f_Choice_init : ∃ fd, FnP G.K "__init__" "Choice.__init__" s_Choice_init [] (He.ma G.K (cl_Choice G.K) "__init__") fd
  f_Choice_look_place : ∃ fd, FnP G.K "look_place" "Choice.look_place" s_Choice_look_place [] (He.ma G.K (cl_Choice G.K) "look_place") fd
  f_Choice_put : ∃ fd, FnP G.K "put" "Choice.put" s_Choice_put [] (He.ma G.K (cl_Choice G.K) "put") fd
  f_Choice_begin : ∃ fd, FnP G.K "begin" "Choice.begin" s_Choice_begin [] (He.ma G.K (cl_Choice G.K) "begin") fd
  f_Choice_come : ∃ fd, FnP G.K "come" "Choice.come" s_Choice_come [] (He.ma G.K (cl_Choice G.K) "come") fd
  f_Choice_heard : ∃ fd, FnP G.K "heard" "Choice.heard" s_Choice_heard [] (He.ma G.K (cl_Choice G.K) "heard") fd
  f_Choice_told : ∃ fd, FnP G.K "told" "Choice.told" s_Choice_told [] (He.ma G.K (cl_Choice G.K) "told") fd
  f_Choice_letters : ∃ fd, FnP G.K "letters" "Choice.letters" s_Choice_letters [] (He.ma G.K (cl_Choice G.K) "letters") fd
  f_Choice_ways : ∃ fd, FnP G.K "ways" "Choice.ways" s_Choice_ways [] (He.ma G.K (cl_Choice G.K) "ways") fd
theorem wd_of {G : En} {h : Heap} (X : G.K.In h) (N : h.Ns mainGlobals G.mg) (c : He.SaysD fa fn G.K) : Wd G where
  g_NetError := He.glo_ok X N (c.fact 0 (f := .glo "NetError") rfl)
  g_BadNumber := He.glo_ok X N (c.fact 1 (f := .glo "BadNumber") rfl)
  g_NoHand := He.glo_ok X N (c.fact 2 (f := .glo "NoHand") rfl)
  g_NoLetter := He.glo_ok X N (c.fact 3 (f := .glo "NoLetter") rfl)
  g_NotNow := He.glo_ok X N (c.fact 4 (f := .glo "NotNow") rfl)
  g_is_whole := He.glo_ok X N (c.fact 5 (f := .glo "is_whole") rfl)
  k_MOST_NAME := He.int_ok X N (c.fact 6 (f := .int "MOST_NAME" 999) rfl)
  k_MOST_PLACES := He.int_ok X N (c.fact 7 (f := .int "MOST_PLACES" 10) rfl)
  g_Choice := He.glo_ok X N (c.fact 8 (f := .glo "Choice") rfl)
  g__law_town := He.glo_ok X N (c.fact 9 (f := .glo "_law_town") rfl)
  g__law_draw := He.glo_ok X N (c.fact 10 (f := .glo "_law_draw") rfl)
  g__law_pick := He.glo_ok X N (c.fact 11 (f := .glo "_law_pick") rfl)
  g__law_begun := He.glo_ok X N (c.fact 12 (f := .glo "_law_begun") rfl)
  g__law_arrive := He.glo_ok X N (c.fact 13 (f := .glo "_law_arrive") rfl)
  g_law := He.glo_ok X N (c.fact 14 (f := .glo "law") rfl)
  z_range := He.free_ok X N (c.fact 15 (f := .free "range") rfl)
  z_isinstance := He.free_ok X N (c.fact 16 (f := .free "isinstance") rfl)
  z_int := He.free_ok X N (c.fact 17 (f := .free "int") rfl)
  z_list := He.free_ok X N (c.fact 18 (f := .free "list") rfl)
  z_len := He.free_ok X N (c.fact 19 (f := .free "len") rfl)
  z_bool := He.free_ok X N (c.fact 20 (f := .free "bool") rfl)
  z_set := He.free_ok X N (c.fact 21 (f := .free "set") rfl)
  z_all := He.free_ok X N (c.fact 22 (f := .free "all") rfl)
  c_Choice := He.cls_ok (c.fact 23 (f := .cls "Choice") rfl)
  mk_Choice := He.mkr_ok (c.fact 24 (f := .mkr "Choice") rfl)
  na_Choice_names := He.noat_ok (c.fact 25 (f := .noat "Choice" "names") rfl)
  na_Choice_active := He.noat_ok (c.fact 26 (f := .noat "Choice" "active") rfl)
  na_Choice_known := He.noat_ok (c.fact 27 (f := .noat "Choice" "known") rfl)
  na_Choice_rows := He.noat_ok (c.fact 28 (f := .noat "Choice" "rows") rfl)
  na_Choice_sent := He.noat_ok (c.fact 29 (f := .noat "Choice" "sent") rfl)
  m_Choice_init := He.meth_ok (c.fact 30 (f := .meth "Choice" "__init__") rfl)
  m_Choice_look_place := He.meth_ok (c.fact 31 (f := .meth "Choice" "look_place") rfl)
  m_Choice_put := He.meth_ok (c.fact 32 (f := .meth "Choice" "put") rfl)
  m_Choice_begin := He.meth_ok (c.fact 33 (f := .meth "Choice" "begin") rfl)
  m_Choice_come := He.meth_ok (c.fact 34 (f := .meth "Choice" "come") rfl)
  m_Choice_heard := He.meth_ok (c.fact 35 (f := .meth "Choice" "heard") rfl)
  m_Choice_told := He.meth_ok (c.fact 36 (f := .meth "Choice" "told") rfl)
  m_Choice_letters := He.meth_ok (c.fact 37 (f := .meth "Choice" "letters") rfl)
  m_Choice_ways := He.meth_ok (c.fact 38 (f := .meth "Choice" "ways") rfl)
  f_is_whole := c.def_ 0 (d := d_is_whole) rfl
  f__law_town := c.def_ 1 (d := d__law_town) rfl
  f__law_draw := c.def_ 2 (d := d__law_draw) rfl
  f__law_pick := c.def_ 3 (d := d__law_pick) rfl
  f__law_begun := c.def_ 4 (d := d__law_begun) rfl
  f__law_arrive := c.def_ 5 (d := d__law_arrive) rfl
  f_law := c.def_ 6 (d := d_law) rfl
  f_Choice_init := c.def_ 7 (d := d_Choice_init) rfl
  f_Choice_look_place := c.def_ 8 (d := d_Choice_look_place) rfl
  f_Choice_put := c.def_ 9 (d := d_Choice_put) rfl
  f_Choice_begin := c.def_ 10 (d := d_Choice_begin) rfl
  f_Choice_come := c.def_ 11 (d := d_Choice_come) rfl
  f_Choice_heard := c.def_ 12 (d := d_Choice_heard) rfl
  f_Choice_told := c.def_ 13 (d := d_Choice_told) rfl
  f_Choice_letters := c.def_ 14 (d := d_Choice_letters) rfl
  f_Choice_ways := c.def_ 15 (d := d_Choice_ways) rfl
abbrev R : PySem.W.OpenRow := PySem.W.OpenLaw.row PySem.Challenge.rw_quietnet_k27_whole_choice_letters
abbrev hk : PySem.W.Hook := He.hookD 4 fa fn
def ob (s : PySem.W.SharedT) : He.AlD := He.obsDG 4 fa fn (HandSHeadRun.getT s)
theorem ob_eq (s : PySem.W.SharedT) : ob s = hk.obs s.abs := He.obsDG_eq (HandSHeadRun.getT_eq s)
def loose : List PySem.Str := (["NetError", "BadNumber", "NoHand", "NoLetter", "NotNow", "is_whole", "MOST_NAME", "MOST_PLACES", "Choice", "_law_town", "_law_draw", "_law_pick", "_law_begun", "_law_arrive"] : List PySem.Str)
theorem run (w : World) : HandSHeadRun.RunEq R (PySem.W.view R.prog [17]) hk ob 30000 loose w := by
  intro os
  kernel_rfl

/-! ### readings and derivations -/
def N_is_whole : List Str := ["thing", "low", "high"]
theorem sc_is_whole : FnScope N_is_whole ["thing", "low", "high"] (defScope s_is_whole) := ⟨rfl, rfl, rfl, by decide +kernel, rfl, by decide +kernel, by decide +kernel⟩
def t_is_whole (G : En) : TS :=
    (tRet (tAndVQ (tCB (rIsi G.K) (tCons (tVar 0) (tCons (tC (.ty "int")) tNil))) (tAndVQ (tNotVQ (tCB (rIsi G.K) (tCons (tVar 0) (tCons (tC (.ty "bool")) tNil)))) (tChainQ (rI0 fun i j => .bl (decide (i ≤ j))) (rI0 fun i j => .bl (decide (i ≤ j))) (tVar 1) (tVar 0) (tVar 2)))))
theorem dv_is_whole {G : En} (W : Wd G) {qual : Str} {f : Addr} {cdv : Value} {A : Around} {outer : List Env} {s : Shared} {H : Hp} {E : XK} (hr : rm0 0 qual s_is_whole f cdv A s) : PSs (cx0 G N_is_whole qual s_is_whole f cdv A outer s H E) (defBody s_is_whole) (t_is_whole G) :=
    (pss_one (ps_ret (e_and (pe_callB call_isi (by rfl) W.z_isinstance (by decide +kernel) (pa_cons (pv 0) (pa_cons (e_ty (by rfl) W.z_int (by decide +kernel)) pa_nil))) (e_and (e_not (pe_callB call_isi (by rfl) W.z_isinstance (by decide +kernel) (pa_cons (pv 0) (pa_cons (e_ty (by rfl) W.z_bool (by decide +kernel)) pa_nil)))) (pe_one (e_chain op_le op_le (pv 1) (pv 0) (pv 2)))))))
theorem run_is_whole {G : En} (W : Wd G) {sp : Sp} (len : ∀ vs H Q E, sp vs H Q E → vs.length = 3) (pure : ∀ vs H Q E, sp vs H Q E → t_is_whole G { nx := fun _ H' => Q .non H', rt := Q } (start N_is_whole vs) H) : CalG G 1 "is_whole" sp [] := by
  obtain ⟨fd, F⟩ := W.f_is_whole
  exact ⟨⟨_, fd, ["thing", "low", "high"], [], fn_ok0 F sc_is_whole len (fun _ _ _ _ _ _ hr => dv_is_whole W hr) pure, W.g_is_whole, F.kp, (F.bindsN (ps := ["thing", "low", "high"]) fun _ _ _ _ _ _ us hl => match us, hl with | [_, _, _], _ => rfl), .nil⟩⟩
def N_Choice_init : List Str := ["self", "names", "fine", "name"]
theorem sc_Choice_init : FnScope N_Choice_init ["self", "names"] (defScope s_Choice_init) := ⟨rfl, rfl, rfl, by decide +kernel, rfl, by decide +kernel, by decide +kernel⟩
def t_Choice_init (G : En) : TS :=
    (tSeq (tAsg (tAndVQ (tCB (rIsi G.K) (tCons (tVar 1) (tCons (tC (.ty "list")) tNil))) (tChainQ (rI0 fun i j => .bl (decide (i ≤ j))) (rI0 fun i j => .bl (decide (i ≤ j))) (tC (.int 2)) (tCB (rLen G.K) (tCons (tVar 1) tNil)) (tC (.int 10)))) (gName 2))
    (tSeq (tIfS (tOr (tNot (tTestQ (tVar 2))) (tOr (tNot (tTestQ (tCB (rAll G.K) (tCons (tLcQ (iListQ G.K (tVar 1)) (gName 3) tYes (tCallQ G 1 "is_whole" (tCons (tVar 3) (tCons (tC (.int 0)) (tCons (tC (.int 999)) tNil)))) [3]) tNil)))) (tTestQ (tOp (rI0 fun i j => .bl (decide (i < j))) (tLenSet G.K (tVar 1)) (tCB (rLen G.K) (tCons (tVar 1) tNil)))))) tNever tNext)
    (tSeq (sFldQ G.K (tVar 0) (tCB (rListOf G.K) (tCons (tVar 1) tNil)) "names")
    (tSeq (sFldQ G.K (tVar 0) (tOp rRep (tLstQ (tCons (tC (.bl false)) tNil)) (tCB (rLen G.K) (tCons (tVar 1) tNil))) "active")
    (tSeq (sFldQ G.K (tVar 0) (tOp rRep (tLstQ (tCons (tC .non) tNil)) (tCB (rLen G.K) (tCons (tVar 1) tNil))) "known")
    (tSeq (sFldQ G.K (tVar 0) (tLcQ (iListQ G.K (tVar 1)) (gName 3) tYes (tLstQ tNil) [3]) "rows")
    (sFldQ G.K (tVar 0) (tC (.int 0)) "sent")))))))
theorem dv_Choice_init {G : En} (W : Wd G) {qual : Str} {f : Addr} {cdv : Value} {A : Around} {outer : List Env} {s : Shared} {H : Hp} {E : XK} (hr : rm0 1 qual s_Choice_init f cdv A s) : PSs (cx0 G N_Choice_init qual s_Choice_init f cdv A outer s H E) (defBody s_Choice_init) (t_Choice_init G) :=
    (pss_cons (ps_set (i := 2) sc_Choice_init.nd rfl (Or.inl rfl) (e_and (pe_callB call_isi (by rfl) W.z_isinstance (by decide +kernel) (pa_cons (pv 1) (pa_cons (e_ty (by rfl) W.z_list (by decide +kernel)) pa_nil))) (pe_one (e_chain op_le op_le pe_int (pe_callB c_len (by rfl) W.z_len (by decide +kernel) (pa_cons (pv 1) pa_nil)) (e_gint (by rfl) W.k_MOST_PLACES)))))
    (pss_cons (ps_if (PW.pt (pw_or (pt_not (b_val (pv 2))) (pw_or (pt_not (b_val (pe_callB (cr_all rfl) (by rfl) W.z_all (by decide +kernel) (pa_cons (e_lc (own := [("name", 3)]) (g := (gName 3)) rfl sc_Choice_init.nd (i_list (pv 1)) (blkOk_by (own := [("name", 3)]) (N := N_Choice_init) (sc := defScope s_Choice_init) (by decide +kernel)) (fun _ _ _ _ _ => (pg_name (i := 3) sc_Choice_init.nd rfl (Or.inl rfl))) (fun _ _ _ _ _ => pts_nil) (fun _ _ _ _ _ => (e_call hr (by rfl) (pa_cons (pv 3) (pa_cons pe_int (pa_cons (e_gint (by rfl) W.k_MOST_NAME) pa_nil)))))) pa_nil)))) (pw_or1 (b_cmp op_lt (e_lenSet rfl (by rfl) W.z_len (by rfl) W.z_set (pv 1)) (pe_callB c_len (by rfl) W.z_len (by decide +kernel) (pa_cons (pv 1) pa_nil)) (nomark _)))))) (pss_one ps_never) pss_nil)
    (pss_cons (s_fld (pv 0) (pe_callTy c_list (by rfl) W.z_list (by decide +kernel) (pa_cons (pv 1) pa_nil)))
    (pss_cons (s_fld (pv 0) (pe_op op_rep (e_lst (pa_cons pe_bl pa_nil)) (pe_callB c_len (by rfl) W.z_len (by decide +kernel) (pa_cons (pv 1) pa_nil))))
    (pss_cons (s_fld (pv 0) (pe_op op_rep (e_lst (pa_cons pe_non pa_nil)) (pe_callB c_len (by rfl) W.z_len (by decide +kernel) (pa_cons (pv 1) pa_nil))))
    (pss_cons (s_fld (pv 0) (e_lc (own := [("name", 3)]) (g := (gName 3)) rfl sc_Choice_init.nd (i_list (pv 1)) (blkOk_by (own := [("name", 3)]) (N := N_Choice_init) (sc := defScope s_Choice_init) (by decide +kernel)) (fun _ _ _ _ _ => (pg_name (i := 3) sc_Choice_init.nd rfl (Or.inl rfl))) (fun _ _ _ _ _ => pts_nil) (fun _ _ _ _ _ => (e_lst pa_nil))))
    (pss_one (s_fld (pv 0) pe_int))))))))
theorem run_Choice_init {G : En} (W : Wd G) {sp : Sp} (len : ∀ vs H Q E, sp vs H Q E → vs.length = 2) (pure : ∀ vs H Q E, sp vs H Q E → t_Choice_init G { nx := fun _ H' => Q .non H', rt := Q } (start N_Choice_init vs) H) : MakG G 2 "Choice" (cl_Choice G.K) sp [] := by
  obtain ⟨fd, F⟩ := W.f_Choice_init
  exact ⟨⟨_, fd, ["self", "names"], [], W.mk_Choice, fn_ok0 F sc_Choice_init len (fun _ _ _ _ _ _ hr => dv_Choice_init W hr) pure, W.g_Choice, (F.bindsN (ps := ["self", "names"]) fun _ _ _ _ _ _ us hl => match us, hl with | [_, _], _ => rfl), .nil⟩⟩
def N_Choice_look_place : List Str := ["self", "place"]
theorem sc_Choice_look_place : FnScope N_Choice_look_place ["self", "place"] (defScope s_Choice_look_place) := ⟨rfl, rfl, rfl, by decide +kernel, rfl, by decide +kernel, by decide +kernel⟩
def t_Choice_look_place (G : En) : TS :=
    (tIfS (tNot (tTestQ (tCallQ G 1 "is_whole" (tCons (tVar 1) (tCons (tC (.int 0)) (tCons (tOp (rI0 fun i j => .int (i - j)) (tCB (rLen G.K) (tCons (tFldQ G.K (tVar 0) "names") tNil)) (tC (.int 1))) tNil)))))) tNever tNext)
theorem dv_Choice_look_place {G : En} (W : Wd G) {qual : Str} {f : Addr} {cdv : Value} {A : Around} {outer : List Env} {s : Shared} {H : Hp} {E : XK} (hr : rm0 1 qual s_Choice_look_place f cdv A s) : PSs (cx0 G N_Choice_look_place qual s_Choice_look_place f cdv A outer s H E) (defBody s_Choice_look_place) (t_Choice_look_place G) :=
    (pss_one (ps_if (pt_not (b_val (e_call hr (by rfl) (pa_cons (pv 1) (pa_cons pe_int (pa_cons (pe_op op_sub (pe_callB c_len (by rfl) W.z_len (by decide +kernel) (pa_cons (e_fld (pv 0)) pa_nil)) pe_int) pa_nil)))))) (pss_one ps_never) pss_nil))
theorem run_Choice_look_place {G : En} (W : Wd G) {sp : Sp} (len : ∀ vs H Q E, sp vs H Q E → vs.length = 2) (pure : ∀ vs H Q E, sp vs H Q E → t_Choice_look_place G { nx := fun _ H' => Q .non H', rt := Q } (start N_Choice_look_place vs) H) : MetG G 2 (cl_Choice G.K) "look_place" sp [] := by
  obtain ⟨fd, F⟩ := W.f_Choice_look_place
  exact ⟨⟨_, fd, ["self", "place"], [], W.c_Choice, W.m_Choice_look_place, fn_ok0 F sc_Choice_look_place len (fun _ _ _ _ _ _ hr => dv_Choice_look_place W hr) pure, (F.bindsN (ps := ["self", "place"]) fun _ _ _ _ _ _ us hl => match us, hl with | [_, _], _ => rfl), .nil⟩⟩
def N_Choice_put : List Str := ["self", "place", "word", "name"]
theorem sc_Choice_put : FnScope N_Choice_put ["self", "place", "word", "name"] (defScope s_Choice_put) := ⟨rfl, rfl, rfl, by decide +kernel, rfl, by decide +kernel, by decide +kernel⟩
def t_Choice_put (G : En) : TS :=
    (tSeq (tDrop (tBMQ G.K "list" rAppend (tOp (rIxL G.K) (tFldQ G.K (tVar 0) "rows") (tVar 1)) (tCons (tTupQ (tCons (tVar 2) (tCons (tVar 3) tNil))) tNil)))
    (sFldQ G.K (tVar 0) (tOp (rI0 fun i j => .int (i + j)) (tFldQ G.K (tVar 0) "sent") (tC (.int 1))) "sent"))
theorem dv_Choice_put {G : En} (W : Wd G) {qual : Str} {f : Addr} {cdv : Value} {A : Around} {outer : List Env} {s : Shared} {H : Hp} {E : XK} (hr : rm0 0 qual s_Choice_put f cdv A s) : PSs (cx0 G N_Choice_put qual s_Choice_put f cdv A outer s H E) (defBody s_Choice_put) (t_Choice_put G) :=
    (pss_cons (ps_expr (e_bm PySem.F.plainAttrs_list PySem.F.slot_list_append PySem.F.type_list_append mt_append (pe_ix ix_list (e_fld (pv 0)) (pv 1) (fun _ _ => rfl)) (pa_cons (e_tup (pa_cons (pv 2) (pa_cons (pv 3) pa_nil))) pa_nil)))
    (pss_one (s_fld (pv 0) (pe_op op_add (e_fld (pv 0)) pe_int))))
theorem run_Choice_put {G : En} (W : Wd G) {sp : Sp} (len : ∀ vs H Q E, sp vs H Q E → vs.length = 4) (pure : ∀ vs H Q E, sp vs H Q E → t_Choice_put G { nx := fun _ H' => Q .non H', rt := Q } (start N_Choice_put vs) H) : MetG G 1 (cl_Choice G.K) "put" sp [] := by
  obtain ⟨fd, F⟩ := W.f_Choice_put
  exact ⟨⟨_, fd, ["self", "place", "word", "name"], [], W.c_Choice, W.m_Choice_put, fn_ok0 F sc_Choice_put len (fun _ _ _ _ _ _ hr => dv_Choice_put W hr) pure, (F.bindsN (ps := ["self", "place", "word", "name"]) fun _ _ _ _ _ _ us hl => match us, hl with | [_, _, _, _], _ => rfl), .nil⟩⟩
def N_Choice_begin : List Str := ["self", "place"]
theorem sc_Choice_begin : FnScope N_Choice_begin ["self", "place"] (defScope s_Choice_begin) := ⟨rfl, rfl, rfl, by decide +kernel, rfl, by decide +kernel, by decide +kernel⟩
def t_Choice_begin (G : En) : TS :=
    (tSeq (tDrop (tMethQ G 2 "look_place" (tVar 0) (tCons (tVar 1) tNil)))
    (tSeq (tIfS (tOr (tTestQ (tOp (rIxL G.K) (tFldQ G.K (tVar 0) "active") (tVar 1))) (tTestQ (tOp rNotNq (tOp (rIxL G.K) (tFldQ G.K (tVar 0) "known") (tVar 1)) (tC .non)))) tNever tNext)
    (tSeq (tAsg (tC (.bl true)) (gSub (tFldQ G.K (tVar 0) "active") (tVar 1) rSetL))
    (tDrop (tMethQ G 2 "put" (tVar 0) (tCons (tVar 1) (tCons (tC (.str "name")) (tCons (tOp (rIxL G.K) (tFldQ G.K (tVar 0) "names") (tVar 1)) tNil))))))))
theorem dv_Choice_begin {G : En} (W : Wd G) {qual : Str} {f : Addr} {cdv : Value} {A : Around} {outer : List Env} {s : Shared} {H : Hp} {E : XK} (hr : rm0 2 qual s_Choice_begin f cdv A s) : PSs (cx0 G N_Choice_begin qual s_Choice_begin f cdv A outer s H E) (defBody s_Choice_begin) (t_Choice_begin G) :=
    (pss_cons (ps_expr (e_meth hr (pv 0) (pa_cons (pv 1) pa_nil)))
    (pss_cons (ps_if (PW.pt (pw_or (b_val (pe_ix ix_list (e_fld (pv 0)) (pv 1) (fun _ _ => rfl))) (pw_or1 (b_cmp c_notN (pe_ix ix_list (e_fld (pv 0)) (pv 1) (fun _ _ => rfl)) pe_non (nomark _))))) (pss_one ps_never) pss_nil)
    (pss_cons (ps_asg pe_bl (pg_sub (e_fld (pv 0)) (pv 1) set_list))
    (pss_one (ps_expr (e_meth hr (pv 0) (pa_cons (pv 1) (pa_cons pe_str (pa_cons (pe_ix ix_list (e_fld (pv 0)) (pv 1) (fun _ _ => rfl)) pa_nil)))))))))
theorem run_Choice_begin {G : En} (W : Wd G) {sp : Sp} (len : ∀ vs H Q E, sp vs H Q E → vs.length = 2) (pure : ∀ vs H Q E, sp vs H Q E → t_Choice_begin G { nx := fun _ H' => Q .non H', rt := Q } (start N_Choice_begin vs) H) : MetG G 3 (cl_Choice G.K) "begin" sp [] := by
  obtain ⟨fd, F⟩ := W.f_Choice_begin
  exact ⟨⟨_, fd, ["self", "place"], [], W.c_Choice, W.m_Choice_begin, fn_ok0 F sc_Choice_begin len (fun _ _ _ _ _ _ hr => dv_Choice_begin W hr) pure, (F.bindsN (ps := ["self", "place"]) fun _ _ _ _ _ _ us hl => match us, hl with | [_, _], _ => rfl), .nil⟩⟩
def N_Choice_come : List Str := ["self", "place", "word", "name", "after"]
theorem sc_Choice_come : FnScope N_Choice_come ["self", "place"] (defScope s_Choice_come) := ⟨rfl, rfl, rfl, by decide +kernel, rfl, by decide +kernel, by decide +kernel⟩
def t_Choice_come (G : En) : TS :=
    (tSeq (tDrop (tMethQ G 4 "look_place" (tVar 0) (tCons (tVar 1) tNil)))
    (tSeq (tIfS (tTestQ (tOp (rEqD G.K) (tOp (rIxL G.K) (tFldQ G.K (tVar 0) "rows") (tVar 1)) (tLstQ tNil))) tNever tNext)
    (tSeq (tAsg (tBMQ G.K "list" rPopAt (tOp (rIxL G.K) (tFldQ G.K (tVar 0) "rows") (tVar 1)) (tCons (tC (.int 0)) tNil)) (gTup G.K 2 (gCons (gName 2) (gCons (gName 3) gNil))))
    (tSeq (tAsg (tOp (rI (fun _ j => 0 < j) fun i j => .int (i % j)) (tOp (rI0 fun i j => .int (i + j)) (tVar 1) (tC (.int 1))) (tCB (rLen G.K) (tCons (tFldQ G.K (tVar 0) "names") tNil))) (gName 4))
    (tSeq (tIfS (tTestQ (tOp rEq (tVar 2) (tC (.str "name")))) (tDrop (tMethQ G 4 "heard" (tVar 0) (tCons (tVar 4) (tCons (tVar 3) tNil)))) (tIfS (tTestQ (tOp rIsNq (tOp (rIxL G.K) (tFldQ G.K (tVar 0) "known") (tVar 4)) (tC .non))) (tSeq (tAsg (tVar 3) (gSub (tFldQ G.K (tVar 0) "known") (tVar 4) rSetL))
    (tDrop (tMethQ G 4 "put" (tVar 0) (tCons (tVar 4) (tCons (tC (.str "chosen")) (tCons (tVar 3) tNil)))))) tNext))
    (tRet (tVar 2)))))))
theorem dv_Choice_come {G : En} (W : Wd G) {qual : Str} {f : Addr} {cdv : Value} {A : Around} {outer : List Env} {s : Shared} {H : Hp} {E : XK} (hr : rm0 4 qual s_Choice_come f cdv A s) : PSs (cx0 G N_Choice_come qual s_Choice_come f cdv A outer s H E) (defBody s_Choice_come) (t_Choice_come G) :=
    (pss_cons (ps_expr (e_meth hr (pv 0) (pa_cons (pv 1) pa_nil)))
    (pss_cons (ps_if (b_cmp (op_eqD hr.units) (pe_ix ix_list (e_fld (pv 0)) (pv 1) (fun _ _ => rfl)) (e_lst pa_nil) (nomark _)) (pss_one ps_never) pss_nil)
    (pss_cons (ps_asg (e_bm PySem.F.plainAttrs_list PySem.F.slot_list_pop PySem.F.type_list_pop mt_popAt (pe_ix ix_list (e_fld (pv 0)) (pv 1) (fun _ _ => rfl)) (pa_cons pe_int pa_nil)) (pg_tup rfl (pgs_cons (pg_name (i := 2) sc_Choice_come.nd rfl (Or.inl rfl)) (pgs_cons (pg_name (i := 3) sc_Choice_come.nd rfl (Or.inl rfl)) pgs_nil))))
    (pss_cons (ps_set (i := 4) sc_Choice_come.nd rfl (Or.inl rfl) (pe_op op_mod (pe_op op_add (pv 1) pe_int) (pe_callB c_len (by rfl) W.z_len (by decide +kernel) (pa_cons (e_fld (pv 0)) pa_nil))))
    (pss_cons (ps_if (b_cmp op_eq (pv 2) pe_str (nomark _)) (pss_one (ps_expr (e_meth hr (pv 0) (pa_cons (pv 4) (pa_cons (pv 3) pa_nil))))) (pss_one (ps_if (b_cmp c_isN (pe_ix ix_list (e_fld (pv 0)) (pv 4) (fun _ _ => rfl)) pe_non (nomark _)) (pss_cons (ps_asg (pv 3) (pg_sub (e_fld (pv 0)) (pv 4) set_list))
    (pss_one (ps_expr (e_meth hr (pv 0) (pa_cons (pv 4) (pa_cons pe_str (pa_cons (pv 3) pa_nil))))))) pss_nil)))
    (pss_one (ps_ret (pv 2))))))))
theorem run_Choice_come {G : En} (W : Wd G) {sp : Sp} (len : ∀ vs H Q E, sp vs H Q E → vs.length = 2) (pure : ∀ vs H Q E, sp vs H Q E → t_Choice_come G { nx := fun _ H' => Q .non H', rt := Q } (start N_Choice_come vs) H) : MetG G 5 (cl_Choice G.K) "come" sp [] := by
  obtain ⟨fd, F⟩ := W.f_Choice_come
  exact ⟨⟨_, fd, ["self", "place"], [], W.c_Choice, W.m_Choice_come, fn_ok0 F sc_Choice_come len (fun _ _ _ _ _ _ hr => dv_Choice_come W hr) pure, (F.bindsN (ps := ["self", "place"]) fun _ _ _ _ _ _ us hl => match us, hl with | [_, _], _ => rfl), .nil⟩⟩
def N_Choice_heard : List Str := ["self", "place", "name", "mine"]
theorem sc_Choice_heard : FnScope N_Choice_heard ["self", "place", "name"] (defScope s_Choice_heard) := ⟨rfl, rfl, rfl, by decide +kernel, rfl, by decide +kernel, by decide +kernel⟩
def t_Choice_heard (G : En) : TS :=
    (tSeq (tAsg (tOp (rIxL G.K) (tFldQ G.K (tVar 0) "names") (tVar 1)) (gName 3))
    (tIfS (tTestQ (tOp rEq (tVar 2) (tVar 3))) (tSeq (tAsg (tVar 3) (gSub (tFldQ G.K (tVar 0) "known") (tVar 1) rSetL))
    (tDrop (tMethQ G 3 "put" (tVar 0) (tCons (tVar 1) (tCons (tC (.str "chosen")) (tCons (tVar 3) tNil)))))) (tIfS (tTestQ (tOp (rI0 fun i j => .bl (decide (j < i))) (tVar 2) (tVar 3))) (tSeq (tAsg (tC (.bl true)) (gSub (tFldQ G.K (tVar 0) "active") (tVar 1) rSetL))
    (tDrop (tMethQ G 3 "put" (tVar 0) (tCons (tVar 1) (tCons (tC (.str "name")) (tCons (tVar 2) tNil)))))) (tIfS (tNot (tTestQ (tOp (rIxL G.K) (tFldQ G.K (tVar 0) "active") (tVar 1)))) (tDrop (tMethQ G 3 "begin" (tVar 0) (tCons (tVar 1) tNil))) tNext))))
theorem dv_Choice_heard {G : En} (W : Wd G) {qual : Str} {f : Addr} {cdv : Value} {A : Around} {outer : List Env} {s : Shared} {H : Hp} {E : XK} (hr : rm0 3 qual s_Choice_heard f cdv A s) : PSs (cx0 G N_Choice_heard qual s_Choice_heard f cdv A outer s H E) (defBody s_Choice_heard) (t_Choice_heard G) :=
    (pss_cons (ps_set (i := 3) sc_Choice_heard.nd rfl (Or.inl rfl) (pe_ix ix_list (e_fld (pv 0)) (pv 1) (fun _ _ => rfl)))
    (pss_one (ps_if (b_cmp op_eq (pv 2) (pv 3) (nomark _)) (pss_cons (ps_asg (pv 3) (pg_sub (e_fld (pv 0)) (pv 1) set_list))
    (pss_one (ps_expr (e_meth hr (pv 0) (pa_cons (pv 1) (pa_cons pe_str (pa_cons (pv 3) pa_nil))))))) (pss_one (ps_if (b_cmp op_gt (pv 2) (pv 3) (nomark _)) (pss_cons (ps_asg pe_bl (pg_sub (e_fld (pv 0)) (pv 1) set_list))
    (pss_one (ps_expr (e_meth hr (pv 0) (pa_cons (pv 1) (pa_cons pe_str (pa_cons (pv 2) pa_nil))))))) (pss_one (ps_if (pt_not (b_val (pe_ix ix_list (e_fld (pv 0)) (pv 1) (fun _ _ => rfl)))) (pss_one (ps_expr (e_meth hr (pv 0) (pa_cons (pv 1) pa_nil)))) pss_nil)))))))
theorem run_Choice_heard {G : En} (W : Wd G) {sp : Sp} (len : ∀ vs H Q E, sp vs H Q E → vs.length = 3) (pure : ∀ vs H Q E, sp vs H Q E → t_Choice_heard G { nx := fun _ H' => Q .non H', rt := Q } (start N_Choice_heard vs) H) : MetG G 4 (cl_Choice G.K) "heard" sp [] := by
  obtain ⟨fd, F⟩ := W.f_Choice_heard
  exact ⟨⟨_, fd, ["self", "place", "name"], [], W.c_Choice, W.m_Choice_heard, fn_ok0 F sc_Choice_heard len (fun _ _ _ _ _ _ hr => dv_Choice_heard W hr) pure, (F.bindsN (ps := ["self", "place", "name"]) fun _ _ _ _ _ _ us hl => match us, hl with | [_, _, _], _ => rfl), .nil⟩⟩
def N_Choice_told : List Str := ["self", "place"]
theorem sc_Choice_told : FnScope N_Choice_told ["self", "place"] (defScope s_Choice_told) := ⟨rfl, rfl, rfl, by decide +kernel, rfl, by decide +kernel, by decide +kernel⟩
def t_Choice_told (G : En) : TS :=
    (tSeq (tDrop (tMethQ G 2 "look_place" (tVar 0) (tCons (tVar 1) tNil)))
    (tRet (tOp (rIxL G.K) (tFldQ G.K (tVar 0) "known") (tVar 1))))
theorem dv_Choice_told {G : En} (W : Wd G) {qual : Str} {f : Addr} {cdv : Value} {A : Around} {outer : List Env} {s : Shared} {H : Hp} {E : XK} (hr : rm0 2 qual s_Choice_told f cdv A s) : PSs (cx0 G N_Choice_told qual s_Choice_told f cdv A outer s H E) (defBody s_Choice_told) (t_Choice_told G) :=
    (pss_cons (ps_expr (e_meth hr (pv 0) (pa_cons (pv 1) pa_nil)))
    (pss_one (ps_ret (pe_ix ix_list (e_fld (pv 0)) (pv 1) (fun _ _ => rfl)))))
theorem run_Choice_told {G : En} (W : Wd G) {sp : Sp} (len : ∀ vs H Q E, sp vs H Q E → vs.length = 2) (pure : ∀ vs H Q E, sp vs H Q E → t_Choice_told G { nx := fun _ H' => Q .non H', rt := Q } (start N_Choice_told vs) H) : MetG G 3 (cl_Choice G.K) "told" sp [] := by
  obtain ⟨fd, F⟩ := W.f_Choice_told
  exact ⟨⟨_, fd, ["self", "place"], [], W.c_Choice, W.m_Choice_told, fn_ok0 F sc_Choice_told len (fun _ _ _ _ _ _ hr => dv_Choice_told W hr) pure, (F.bindsN (ps := ["self", "place"]) fun _ _ _ _ _ _ us hl => match us, hl with | [_, _], _ => rfl), .nil⟩⟩
def N_Choice_letters : List Str := ["self"]
theorem sc_Choice_letters : FnScope N_Choice_letters ["self"] (defScope s_Choice_letters) := ⟨rfl, rfl, rfl, by decide +kernel, rfl, by decide +kernel, by decide +kernel⟩
def t_Choice_letters (G : En) : TS :=
    (tRet (tFldQ G.K (tVar 0) "sent"))
theorem dv_Choice_letters {G : En} (W : Wd G) {qual : Str} {f : Addr} {cdv : Value} {A : Around} {outer : List Env} {s : Shared} {H : Hp} {E : XK} (hr : rm0 0 qual s_Choice_letters f cdv A s) : PSs (cx0 G N_Choice_letters qual s_Choice_letters f cdv A outer s H E) (defBody s_Choice_letters) (t_Choice_letters G) :=
    (pss_one (ps_ret (e_fld (pv 0))))
theorem run_Choice_letters {G : En} (W : Wd G) {sp : Sp} (len : ∀ vs H Q E, sp vs H Q E → vs.length = 1) (pure : ∀ vs H Q E, sp vs H Q E → t_Choice_letters G { nx := fun _ H' => Q .non H', rt := Q } (start N_Choice_letters vs) H) : MetG G 1 (cl_Choice G.K) "letters" sp [] := by
  obtain ⟨fd, F⟩ := W.f_Choice_letters
  exact ⟨⟨_, fd, ["self"], [], W.c_Choice, W.m_Choice_letters, fn_ok0 F sc_Choice_letters len (fun _ _ _ _ _ _ hr => dv_Choice_letters W hr) pure, (F.bindsN (ps := ["self"]) fun _ _ _ _ _ _ us hl => match us, hl with | [_], _ => rfl), .nil⟩⟩
def N_Choice_ways : List Str := ["self", "place"]
theorem sc_Choice_ways : FnScope N_Choice_ways ["self"] (defScope s_Choice_ways) := ⟨rfl, rfl, rfl, by decide +kernel, rfl, by decide +kernel, by decide +kernel⟩
def t_Choice_ways (G : En) : TS :=
    (tRet (tLcQ (iRng1Q (tCons (tCB (rLen G.K) (tCons (tFldQ G.K (tVar 0) "rows") tNil)) tNil)) (gName 1) (tTestQ (tOp (rNeD G.K) (tOp (rIxL G.K) (tFldQ G.K (tVar 0) "rows") (tVar 1)) (tLstQ tNil))) (tVar 1) [1]))
theorem dv_Choice_ways {G : En} (W : Wd G) {qual : Str} {f : Addr} {cdv : Value} {A : Around} {outer : List Env} {s : Shared} {H : Hp} {E : XK} (hr : rm0 0 qual s_Choice_ways f cdv A s) : PSs (cx0 G N_Choice_ways qual s_Choice_ways f cdv A outer s H E) (defBody s_Choice_ways) (t_Choice_ways G) :=
    (pss_one (ps_ret (e_lc (own := [("place", 1)]) (g := (gName 1)) rfl sc_Choice_ways.nd (i_rng1 (by rfl) W.z_range (pa_cons (pe_callB c_len (by rfl) W.z_len (by decide +kernel) (pa_cons (e_fld (pv 0)) pa_nil)) pa_nil)) (blkOk_by (own := [("place", 1)]) (N := N_Choice_ways) (sc := defScope s_Choice_ways) (by decide +kernel)) (fun _ _ _ _ _ => (pg_name (i := 1) sc_Choice_ways.nd rfl (Or.inl rfl))) (fun _ _ _ _ _ => (pts_one (b_cmp (op_neD hr.units) (pe_ix ix_list (e_fld (pv 0)) (pv 1) (fun _ _ => rfl)) (e_lst pa_nil) (nomark _)))) (fun _ _ _ _ _ => (pv 1)))))
theorem run_Choice_ways {G : En} (W : Wd G) {sp : Sp} (len : ∀ vs H Q E, sp vs H Q E → vs.length = 1) (pure : ∀ vs H Q E, sp vs H Q E → t_Choice_ways G { nx := fun _ H' => Q .non H', rt := Q } (start N_Choice_ways vs) H) : MetG G 1 (cl_Choice G.K) "ways" sp [] := by
  obtain ⟨fd, F⟩ := W.f_Choice_ways
  exact ⟨⟨_, fd, ["self"], [], W.c_Choice, W.m_Choice_ways, fn_ok0 F sc_Choice_ways len (fun _ _ _ _ _ _ hr => dv_Choice_ways W hr) pure, (F.bindsN (ps := ["self"]) fun _ _ _ _ _ _ us hl => match us, hl with | [_], _ => rfl), .nil⟩⟩
def N__law_town : List Str := ["_law_script"]
theorem sc__law_town : FnScope N__law_town ["_law_script"] (defScope s__law_town) := ⟨rfl, rfl, rfl, by decide +kernel, rfl, by decide +kernel, by decide +kernel⟩
def t__law_town (G : En) : TS :=
    (tRet (tLstQ (tCons (tIf (tTestQ (tOp (rNeD G.K) (tVar 0) (tLstQ tNil))) (tCB (rListOf G.K) (tCons (tVar 0) tNil)) (tLstQ (tCons (tC (.int 0)) tNil))) (tCons (tC (.int 0)) tNil))))
theorem dv__law_town {G : En} (W : Wd G) {qual : Str} {f : Addr} {cdv : Value} {A : Around} {outer : List Env} {s : Shared} {H : Hp} {E : XK} (hr : rm0 0 qual s__law_town f cdv A s) : PSs (cx0 G N__law_town qual s__law_town f cdv A outer s H E) (defBody s__law_town) (t__law_town G) :=
    (pss_one (ps_ret (e_lst (pa_cons (pe_ifExp (b_cmp (op_neD hr.units) (pv 0) (e_lst pa_nil) (nomark _)) (pe_callTy c_list (by rfl) W.z_list (by decide +kernel) (pa_cons (pv 0) pa_nil)) (e_lst (pa_cons pe_int pa_nil))) (pa_cons pe_int pa_nil)))))
theorem run__law_town {G : En} (W : Wd G) {sp : Sp} (len : ∀ vs H Q E, sp vs H Q E → vs.length = 1) (pure : ∀ vs H Q E, sp vs H Q E → t__law_town G { nx := fun _ H' => Q .non H', rt := Q } (start N__law_town vs) H) : CalG G 1 "_law_town" sp [] := by
  obtain ⟨fd, F⟩ := W.f__law_town
  exact ⟨⟨_, fd, ["_law_script"], [], fn_ok0 F sc__law_town len (fun _ _ _ _ _ _ hr => dv__law_town W hr) pure, W.g__law_town, F.kp, (F.bindsN (ps := ["_law_script"]) fun _ _ _ _ _ _ us hl => match us, hl with | [_], _ => rfl), .nil⟩⟩
def N__law_draw : List Str := ["_law_town_here", "_law_many", "_law_cells", "_law_at", "_law_cell", "_law_mixed"]
theorem sc__law_draw : FnScope N__law_draw ["_law_town_here", "_law_many"] (defScope s__law_draw) := ⟨rfl, rfl, rfl, by decide +kernel, rfl, by decide +kernel, by decide +kernel⟩
def t__law_draw (G : En) : TS :=
    (tSeq (tAsg (tOp (rIxL G.K) (tVar 0) (tC (.int 0))) (gName 2))
    (tSeq (tAsg (tOp (rI0 fun i j => .int (i + j)) (tOp (rIxL G.K) (tVar 0) (tC (.int 1))) (tC (.int 1))) (gSub (tVar 0) (tC (.int 1)) rSetL))
    (tSeq (tAsg (tOp (rI (fun _ j => 0 < j) fun i j => .int (i % j)) (tOp (rIxL G.K) (tVar 0) (tC (.int 1))) (tCB (rLen G.K) (tCons (tVar 2) tNil))) (gName 3))
    (tSeq (tAsg (tOp (rIxL G.K) (tVar 2) (tVar 3)) (gName 4))
    (tSeq (tIfS (tTestQ (tOp (rI0 fun i j => .bl (decide (j ≤ i))) (tVar 4) (tC (.int 1000000000000000000)))) (tSeq (tAsg (tOp (rI CDiv fun i j => .int (i / j)) (tVar 4) (tVar 1)) (gSub (tVar 2) (tVar 3) rSetL))
    (tRet (tOp (rI (fun _ j => 0 < j) fun i j => .int (i % j)) (tVar 4) (tVar 1)))) tNext)
    (tSeq (tAsg (tOp (rI (fun _ j => 0 < j) fun i j => .int (i % j)) (tOp (rI0 fun i j => .int (i + j)) (tVar 4) (tOp (rI CMul fun i j => .int (i * j)) (tC (.int 104729)) (tOp (rIxL G.K) (tVar 0) (tC (.int 1))))) (tC (.int 4294967291))) (gName 5))
    (tSeq (tAsg (tOp (rI (fun _ j => 0 < j) fun i j => .int (i % j)) (tOp (rI CPow fun i j => .int (i ^ j.toNat)) (tVar 5) (tC (.int 5))) (tC (.int 4294967279))) (gName 5))
    (tRet (tOp (rI (fun _ j => 0 < j) fun i j => .int (i % j)) (tOp (rI CDiv fun i j => .int (i / j)) (tOp (rI (fun _ j => 0 < j) fun i j => .int (i % j)) (tOp (rI0 fun i j => .int (i + j)) (tOp (rI CMul fun i j => .int (i * j)) (tOp (rI CDiv fun i j => .int (i / j)) (tVar 5) (tC (.int 64))) (tC (.int 69621))) (tVar 5)) (tC (.int 4294967231))) (tC (.int 8))) (tVar 1))))))))))
theorem dv__law_draw {G : En} (W : Wd G) {qual : Str} {f : Addr} {cdv : Value} {A : Around} {outer : List Env} {s : Shared} {H : Hp} {E : XK} (hr : rm0 0 qual s__law_draw f cdv A s) : PSs (cx0 G N__law_draw qual s__law_draw f cdv A outer s H E) (defBody s__law_draw) (t__law_draw G) :=
    (pss_cons (ps_set (i := 2) sc__law_draw.nd rfl (Or.inl rfl) (pe_ix ix_list (pv 0) pe_int (fun _ _ => rfl)))
    (pss_cons (ps_asg (pe_op op_add (pe_ix ix_list (pv 0) pe_int (fun _ _ => rfl)) pe_int) (pg_sub (pv 0) pe_int set_list))
    (pss_cons (ps_set (i := 3) sc__law_draw.nd rfl (Or.inl rfl) (pe_op op_mod (pe_ix ix_list (pv 0) pe_int (fun _ _ => rfl)) (pe_callB c_len (by rfl) W.z_len (by decide +kernel) (pa_cons (pv 2) pa_nil))))
    (pss_cons (ps_set (i := 4) sc__law_draw.nd rfl (Or.inl rfl) (pe_ix ix_list (pv 2) (pv 3) (fun _ _ => rfl)))
    (pss_cons (ps_if (b_cmp op_ge (pv 4) pe_int (nomark _)) (pss_cons (ps_asg (pe_op op_fdiv (pv 4) (pv 1)) (pg_sub (pv 2) (pv 3) set_list))
    (pss_one (ps_ret (pe_op op_mod (pv 4) (pv 1))))) pss_nil)
    (pss_cons (ps_set (i := 5) sc__law_draw.nd rfl (Or.inl rfl) (pe_op op_mod (pe_op op_add (pv 4) (pe_op op_mul pe_int (pe_ix ix_list (pv 0) pe_int (fun _ _ => rfl)))) pe_int))
    (pss_cons (ps_set (i := 5) sc__law_draw.nd rfl (Or.inl rfl) (pe_op op_mod (pe_op op_pow (pv 5) pe_int) pe_int))
    (pss_one (ps_ret (pe_op op_mod (pe_op op_fdiv (pe_op op_mod (pe_op op_add (pe_op op_mul (pe_op op_fdiv (pv 5) pe_int) pe_int) (pv 5)) pe_int) pe_int) (pv 1)))))))))))
theorem run__law_draw {G : En} (W : Wd G) {sp : Sp} (len : ∀ vs H Q E, sp vs H Q E → vs.length = 2) (pure : ∀ vs H Q E, sp vs H Q E → t__law_draw G { nx := fun _ H' => Q .non H', rt := Q } (start N__law_draw vs) H) : CalG G 1 "_law_draw" sp [] := by
  obtain ⟨fd, F⟩ := W.f__law_draw
  exact ⟨⟨_, fd, ["_law_town_here", "_law_many"], [], fn_ok0 F sc__law_draw len (fun _ _ _ _ _ _ hr => dv__law_draw W hr) pure, W.g__law_draw, F.kp, (F.bindsN (ps := ["_law_town_here", "_law_many"]) fun _ _ _ _ _ _ us hl => match us, hl with | [_, _], _ => rfl), .nil⟩⟩
def N__law_pick : List Str := ["_law_town_here", "_law_some"]
theorem sc__law_pick : FnScope N__law_pick ["_law_town_here", "_law_some"] (defScope s__law_pick) := ⟨rfl, rfl, rfl, by decide +kernel, rfl, by decide +kernel, by decide +kernel⟩
def t__law_pick (G : En) : TS :=
    (tRet (tOp (rIxL G.K) (tVar 1) (tCallQ G 1 "_law_draw" (tCons (tVar 0) (tCons (tCB (rLen G.K) (tCons (tVar 1) tNil)) tNil)))))
theorem dv__law_pick {G : En} (W : Wd G) {qual : Str} {f : Addr} {cdv : Value} {A : Around} {outer : List Env} {s : Shared} {H : Hp} {E : XK} (hr : rm0 1 qual s__law_pick f cdv A s) : PSs (cx0 G N__law_pick qual s__law_pick f cdv A outer s H E) (defBody s__law_pick) (t__law_pick G) :=
    (pss_one (ps_ret (pe_ix ix_list (pv 1) (e_call hr (by rfl) (pa_cons (pv 0) (pa_cons (pe_callB c_len (by rfl) W.z_len (by decide +kernel) (pa_cons (pv 1) pa_nil)) pa_nil))) (fun _ _ => rfl))))
theorem run__law_pick {G : En} (W : Wd G) {sp : Sp} (len : ∀ vs H Q E, sp vs H Q E → vs.length = 2) (pure : ∀ vs H Q E, sp vs H Q E → t__law_pick G { nx := fun _ H' => Q .non H', rt := Q } (start N__law_pick vs) H) : CalG G 2 "_law_pick" sp [] := by
  obtain ⟨fd, F⟩ := W.f__law_pick
  exact ⟨⟨_, fd, ["_law_town_here", "_law_some"], [], fn_ok0 F sc__law_pick len (fun _ _ _ _ _ _ hr => dv__law_pick W hr) pure, W.g__law_pick, F.kp, (F.bindsN (ps := ["_law_town_here", "_law_some"]) fun _ _ _ _ _ _ us hl => match us, hl with | [_, _], _ => rfl), .nil⟩⟩
def N__law_begun : List Str := ["_law_own", "_law_place"]
theorem sc__law_begun : FnScope N__law_begun ["_law_own", "_law_place"] (defScope s__law_begun) := ⟨rfl, rfl, rfl, by decide +kernel, rfl, by decide +kernel, by decide +kernel⟩
def t__law_begun (G : En) : TS :=
    (tSeq (tAsg (tC (.bl true)) (gSub (tOp (rIxL G.K) (tVar 0) (tC (.int 1))) (tVar 1) rSetL))
    (tSeq (tDrop (tBMQ G.K "list" rAppend (tOp (rIxL G.K) (tOp (rIxL G.K) (tVar 0) (tC (.int 3))) (tVar 1)) (tCons (tTupQ (tCons (tC (.str "name")) (tCons (tOp (rIxL G.K) (tOp (rIxL G.K) (tVar 0) (tC (.int 0))) (tVar 1)) tNil))) tNil)))
    (tAsg (tOp (rI0 fun i j => .int (i + j)) (tOp (rIxL G.K) (tVar 0) (tC (.int 4))) (tC (.int 1))) (gSub (tVar 0) (tC (.int 4)) rSetL))))
theorem dv__law_begun {G : En} (W : Wd G) {qual : Str} {f : Addr} {cdv : Value} {A : Around} {outer : List Env} {s : Shared} {H : Hp} {E : XK} (hr : rm0 0 qual s__law_begun f cdv A s) : PSs (cx0 G N__law_begun qual s__law_begun f cdv A outer s H E) (defBody s__law_begun) (t__law_begun G) :=
    (pss_cons (ps_asg pe_bl (pg_sub (pe_ix ix_list (pv 0) pe_int (fun _ _ => rfl)) (pv 1) set_list))
    (pss_cons (ps_expr (e_bm PySem.F.plainAttrs_list PySem.F.slot_list_append PySem.F.type_list_append mt_append (pe_ix ix_list (pe_ix ix_list (pv 0) pe_int (fun _ _ => rfl)) (pv 1) (fun _ _ => rfl)) (pa_cons (e_tup (pa_cons pe_str (pa_cons (pe_ix ix_list (pe_ix ix_list (pv 0) pe_int (fun _ _ => rfl)) (pv 1) (fun _ _ => rfl)) pa_nil))) pa_nil)))
    (pss_one (ps_asg (pe_op op_add (pe_ix ix_list (pv 0) pe_int (fun _ _ => rfl)) pe_int) (pg_sub (pv 0) pe_int set_list)))))
theorem run__law_begun {G : En} (W : Wd G) {sp : Sp} (len : ∀ vs H Q E, sp vs H Q E → vs.length = 2) (pure : ∀ vs H Q E, sp vs H Q E → t__law_begun G { nx := fun _ H' => Q .non H', rt := Q } (start N__law_begun vs) H) : CalG G 1 "_law_begun" sp [] := by
  obtain ⟨fd, F⟩ := W.f__law_begun
  exact ⟨⟨_, fd, ["_law_own", "_law_place"], [], fn_ok0 F sc__law_begun len (fun _ _ _ _ _ _ hr => dv__law_begun W hr) pure, W.g__law_begun, F.kp, (F.bindsN (ps := ["_law_own", "_law_place"]) fun _ _ _ _ _ _ us hl => match us, hl with | [_, _], _ => rfl), .nil⟩⟩
def N__law_arrive : List Str := ["_law_own", "_law_place", "_law_word", "_law_name", "_law_after"]
theorem sc__law_arrive : FnScope N__law_arrive ["_law_own", "_law_place"] (defScope s__law_arrive) := ⟨rfl, rfl, rfl, by decide +kernel, rfl, by decide +kernel, by decide +kernel⟩
def t__law_arrive (G : En) : TS :=
    (tSeq (tAsg (tBMQ G.K "list" rPopAt (tOp (rIxL G.K) (tOp (rIxL G.K) (tVar 0) (tC (.int 3))) (tVar 1)) (tCons (tC (.int 0)) tNil)) (gTup G.K 2 (gCons (gName 2) (gCons (gName 3) gNil))))
    (tSeq (tAsg (tOp (rI (fun _ j => 0 < j) fun i j => .int (i % j)) (tOp (rI0 fun i j => .int (i + j)) (tVar 1) (tC (.int 1))) (tCB (rLen G.K) (tCons (tOp (rIxL G.K) (tVar 0) (tC (.int 0))) tNil))) (gName 4))
    (tSeq (tIfS (tTestQ (tOp rEq (tVar 2) (tC (.str "chosen")))) (tIfS (tTestQ (tOp rIsNq (tOp (rIxL G.K) (tOp (rIxL G.K) (tVar 0) (tC (.int 2))) (tVar 4)) (tC .non))) (tSeq (tAsg (tVar 3) (gSub (tOp (rIxL G.K) (tVar 0) (tC (.int 2))) (tVar 4) rSetL))
    (tSeq (tDrop (tBMQ G.K "list" rAppend (tOp (rIxL G.K) (tOp (rIxL G.K) (tVar 0) (tC (.int 3))) (tVar 4)) (tCons (tTupQ (tCons (tVar 2) (tCons (tVar 3) tNil))) tNil)))
    (tAsg (tOp (rI0 fun i j => .int (i + j)) (tOp (rIxL G.K) (tVar 0) (tC (.int 4))) (tC (.int 1))) (gSub (tVar 0) (tC (.int 4)) rSetL)))) tNext) (tIfS (tTestQ (tOp rEq (tVar 3) (tOp (rIxL G.K) (tOp (rIxL G.K) (tVar 0) (tC (.int 0))) (tVar 4)))) (tSeq (tAsg (tVar 3) (gSub (tOp (rIxL G.K) (tVar 0) (tC (.int 2))) (tVar 4) rSetL))
    (tSeq (tDrop (tBMQ G.K "list" rAppend (tOp (rIxL G.K) (tOp (rIxL G.K) (tVar 0) (tC (.int 3))) (tVar 4)) (tCons (tTupQ (tCons (tC (.str "chosen")) (tCons (tVar 3) tNil))) tNil)))
    (tAsg (tOp (rI0 fun i j => .int (i + j)) (tOp (rIxL G.K) (tVar 0) (tC (.int 4))) (tC (.int 1))) (gSub (tVar 0) (tC (.int 4)) rSetL)))) (tIfS (tTestQ (tOp (rI0 fun i j => .bl (decide (j < i))) (tVar 3) (tOp (rIxL G.K) (tOp (rIxL G.K) (tVar 0) (tC (.int 0))) (tVar 4)))) (tSeq (tAsg (tC (.bl true)) (gSub (tOp (rIxL G.K) (tVar 0) (tC (.int 1))) (tVar 4) rSetL))
    (tSeq (tDrop (tBMQ G.K "list" rAppend (tOp (rIxL G.K) (tOp (rIxL G.K) (tVar 0) (tC (.int 3))) (tVar 4)) (tCons (tTupQ (tCons (tVar 2) (tCons (tVar 3) tNil))) tNil)))
    (tAsg (tOp (rI0 fun i j => .int (i + j)) (tOp (rIxL G.K) (tVar 0) (tC (.int 4))) (tC (.int 1))) (gSub (tVar 0) (tC (.int 4)) rSetL)))) (tIfS (tNot (tTestQ (tOp (rIxL G.K) (tOp (rIxL G.K) (tVar 0) (tC (.int 1))) (tVar 4)))) (tDrop (tCallQ G 1 "_law_begun" (tCons (tVar 0) (tCons (tVar 4) tNil)))) tNext))))
    (tRet (tVar 2)))))
theorem dv__law_arrive {G : En} (W : Wd G) {qual : Str} {f : Addr} {cdv : Value} {A : Around} {outer : List Env} {s : Shared} {H : Hp} {E : XK} (hr : rm0 1 qual s__law_arrive f cdv A s) : PSs (cx0 G N__law_arrive qual s__law_arrive f cdv A outer s H E) (defBody s__law_arrive) (t__law_arrive G) :=
    (pss_cons (ps_asg (e_bm PySem.F.plainAttrs_list PySem.F.slot_list_pop PySem.F.type_list_pop mt_popAt (pe_ix ix_list (pe_ix ix_list (pv 0) pe_int (fun _ _ => rfl)) (pv 1) (fun _ _ => rfl)) (pa_cons pe_int pa_nil)) (pg_tup rfl (pgs_cons (pg_name (i := 2) sc__law_arrive.nd rfl (Or.inl rfl)) (pgs_cons (pg_name (i := 3) sc__law_arrive.nd rfl (Or.inl rfl)) pgs_nil))))
    (pss_cons (ps_set (i := 4) sc__law_arrive.nd rfl (Or.inl rfl) (pe_op op_mod (pe_op op_add (pv 1) pe_int) (pe_callB c_len (by rfl) W.z_len (by decide +kernel) (pa_cons (pe_ix ix_list (pv 0) pe_int (fun _ _ => rfl)) pa_nil))))
    (pss_cons (ps_if (b_cmp op_eq (pv 2) pe_str (nomark _)) (pss_one (ps_if (b_cmp c_isN (pe_ix ix_list (pe_ix ix_list (pv 0) pe_int (fun _ _ => rfl)) (pv 4) (fun _ _ => rfl)) pe_non (nomark _)) (pss_cons (ps_asg (pv 3) (pg_sub (pe_ix ix_list (pv 0) pe_int (fun _ _ => rfl)) (pv 4) set_list))
    (pss_cons (ps_expr (e_bm PySem.F.plainAttrs_list PySem.F.slot_list_append PySem.F.type_list_append mt_append (pe_ix ix_list (pe_ix ix_list (pv 0) pe_int (fun _ _ => rfl)) (pv 4) (fun _ _ => rfl)) (pa_cons (e_tup (pa_cons (pv 2) (pa_cons (pv 3) pa_nil))) pa_nil)))
    (pss_one (ps_asg (pe_op op_add (pe_ix ix_list (pv 0) pe_int (fun _ _ => rfl)) pe_int) (pg_sub (pv 0) pe_int set_list))))) pss_nil)) (pss_one (ps_if (b_cmp op_eq (pv 3) (pe_ix ix_list (pe_ix ix_list (pv 0) pe_int (fun _ _ => rfl)) (pv 4) (fun _ _ => rfl)) (nomark _)) (pss_cons (ps_asg (pv 3) (pg_sub (pe_ix ix_list (pv 0) pe_int (fun _ _ => rfl)) (pv 4) set_list))
    (pss_cons (ps_expr (e_bm PySem.F.plainAttrs_list PySem.F.slot_list_append PySem.F.type_list_append mt_append (pe_ix ix_list (pe_ix ix_list (pv 0) pe_int (fun _ _ => rfl)) (pv 4) (fun _ _ => rfl)) (pa_cons (e_tup (pa_cons pe_str (pa_cons (pv 3) pa_nil))) pa_nil)))
    (pss_one (ps_asg (pe_op op_add (pe_ix ix_list (pv 0) pe_int (fun _ _ => rfl)) pe_int) (pg_sub (pv 0) pe_int set_list))))) (pss_one (ps_if (b_cmp op_gt (pv 3) (pe_ix ix_list (pe_ix ix_list (pv 0) pe_int (fun _ _ => rfl)) (pv 4) (fun _ _ => rfl)) (nomark _)) (pss_cons (ps_asg pe_bl (pg_sub (pe_ix ix_list (pv 0) pe_int (fun _ _ => rfl)) (pv 4) set_list))
    (pss_cons (ps_expr (e_bm PySem.F.plainAttrs_list PySem.F.slot_list_append PySem.F.type_list_append mt_append (pe_ix ix_list (pe_ix ix_list (pv 0) pe_int (fun _ _ => rfl)) (pv 4) (fun _ _ => rfl)) (pa_cons (e_tup (pa_cons (pv 2) (pa_cons (pv 3) pa_nil))) pa_nil)))
    (pss_one (ps_asg (pe_op op_add (pe_ix ix_list (pv 0) pe_int (fun _ _ => rfl)) pe_int) (pg_sub (pv 0) pe_int set_list))))) (pss_one (ps_if (pt_not (b_val (pe_ix ix_list (pe_ix ix_list (pv 0) pe_int (fun _ _ => rfl)) (pv 4) (fun _ _ => rfl)))) (pss_one (ps_expr (e_call hr (by rfl) (pa_cons (pv 0) (pa_cons (pv 4) pa_nil))))) pss_nil)))))))
    (pss_one (ps_ret (pv 2))))))
theorem run__law_arrive {G : En} (W : Wd G) {sp : Sp} (len : ∀ vs H Q E, sp vs H Q E → vs.length = 2) (pure : ∀ vs H Q E, sp vs H Q E → t__law_arrive G { nx := fun _ H' => Q .non H', rt := Q } (start N__law_arrive vs) H) : CalG G 2 "_law_arrive" sp [] := by
  obtain ⟨fd, F⟩ := W.f__law_arrive
  exact ⟨⟨_, fd, ["_law_own", "_law_place"], [], fn_ok0 F sc__law_arrive len (fun _ _ _ _ _ _ hr => dv__law_arrive W hr) pure, W.g__law_arrive, F.kp, (F.bindsN (ps := ["_law_own", "_law_place"]) fun _ _ _ _ _ _ us hl => match us, hl with | [_, _], _ => rfl), .nil⟩⟩
def N_law : List Str := ["_law_script", "_law_town_here", "_law_many", "_law_base", "_law_step", "_law_names", "_law_k", "_law_net", "_law_own", "_law_name", "_law_turn", "_law_ways", "_law_place"]
theorem sc_law : FnScope N_law ["_law_script"] (defScope s_law) := ⟨rfl, rfl, rfl, by decide +kernel, rfl, by decide +kernel, by decide +kernel⟩
def t_law (G : En) : TS :=
    (tSeq (tAsg (tCallQ G 5 "_law_town" (tCons (tVar 0) tNil)) (gName 1))
    (tSeq (tAsg (tOp (rI0 fun i j => .int (i + j)) (tC (.int 2)) (tCallQ G 5 "_law_draw" (tCons (tVar 1) (tCons (tC (.int 8)) tNil)))) (gName 2))
    (tSeq (tAsg (tCallQ G 5 "_law_draw" (tCons (tVar 1) (tCons (tC (.int 1000)) tNil))) (gName 3))
    (tSeq (tAsg (tCallQ G 5 "_law_pick" (tCons (tVar 1) (tCons (tLstQ (tCons (tC (.int 1)) (tCons (tC (.int 7)) (tCons (tC (.int 999)) (tCons (tC (.int 333)) (tCons (tC (.int 501)) tNil)))))) tNil))) (gName 4))
    (tSeq (tAsg (tLcQ (iRng1Q (tCons (tVar 2) tNil)) (gName 6) tYes (tOp (rI (fun _ j => 0 < j) fun i j => .int (i % j)) (tOp (rI0 fun i j => .int (i + j)) (tVar 3) (tOp (rI CMul fun i j => .int (i * j)) (tVar 4) (tVar 6))) (tC (.int 1000))) [6]) (gName 5))
    (tSeq (tIfS (tTestQ (tOp rEq (tVar 4) (tC (.int 333)))) (tAsg (tLcQ (iRng1Q (tCons (tVar 2) tNil)) (gName 6) tYes (tOp (rI0 fun i j => .int (i + j)) (tOp (rI (fun _ j => 0 < j) fun i j => .int (i % j)) (tOp (rI CMul fun i j => .int (i * j)) (tOp (rI CMul fun i j => .int (i * j)) (tVar 6) (tVar 6)) (tC (.int 10))) (tC (.int 999))) (tVar 6)) [6]) (gName 5)) tNext)
    (tSeq (tIfS (tTestQ (tOp (rI0 fun i j => .bl (decide (i < j))) (tLenSet G.K (tVar 5)) (tVar 2))) (tAsg (tLRg (tVar 2)) (gName 5)) tNext)
    (tSeq (tAsg (tMakeQ G 5 "Choice" (tCons (tVar 5) tNil)) (gName 7))
    (tSeq (tAsg (tLstQ (tCons (tVar 5) (tCons (tOp rRep (tLstQ (tCons (tC (.bl false)) tNil)) (tVar 2)) (tCons (tOp rRep (tLstQ (tCons (tC .non) tNil)) (tVar 2)) (tCons (tLcQ (iListQ G.K (tVar 5)) (gName 9) tYes (tLstQ tNil) [9]) (tCons (tC (.int 0)) tNil)))))) (gName 8))
    (tSeq (tForQ (iRng1Q (tCons (tC (.int 44)) tNil)) (gName 10) (tSeq (tAsg (tLcQ (iRng1Q (tCons (tVar 2) tNil)) (gName 12) (tTestQ (tOp (rNeD G.K) (tOp (rIxL G.K) (tOp (rIxL G.K) (tVar 8) (tC (.int 3))) (tVar 12)) (tLstQ tNil))) (tVar 12) [12]) (gName 11))
    (tSeq (tIfS (tOr (tTestQ (tOp (rNeD G.K) (tMethQ G 5 "ways" (tVar 7) tNil) (tVar 11))) (tOr (tTestQ (tOp rNe (tMethQ G 5 "letters" (tVar 7) tNil) (tOp (rIxL G.K) (tVar 8) (tC (.int 4))))) (tTestQ (tOp (rNeD G.K) (tLcQ (iRng1Q (tCons (tVar 2) tNil)) (gName 6) tYes (tMethQ G 5 "told" (tVar 7) (tCons (tVar 6) tNil)) [6]) (tOp (rIxL G.K) (tVar 8) (tC (.int 2))))))) (tRet (tC (.bl false))) tNext)
    (tSeq (tAsg (tCallQ G 5 "_law_draw" (tCons (tVar 1) (tCons (tVar 2) tNil))) (gName 12))
    (tIfS (tAnd (tOr (tTestQ (tOp (rEqD G.K) (tVar 11) (tLstQ tNil))) (tOr (tTestQ (tOp (rI0 fun i j => .bl (decide (i < j))) (tVar 10) (tC (.int 6)))) (tTestQ (tOp rEq (tCallQ G 5 "_law_draw" (tCons (tVar 1) (tCons (tC (.int 5)) tNil))) (tC (.int 0)))))) (tAnd (tNot (tTestQ (tOp (rIxL G.K) (tOp (rIxL G.K) (tVar 8) (tC (.int 1))) (tVar 12)))) (tTestQ (tOp rIsNq (tOp (rIxL G.K) (tOp (rIxL G.K) (tVar 8) (tC (.int 2))) (tVar 12)) (tC .non))))) (tSeq (tDrop (tMethQ G 5 "begin" (tVar 7) (tCons (tVar 12) tNil)))
    (tDrop (tCallQ G 5 "_law_begun" (tCons (tVar 8) (tCons (tVar 12) tNil))))) (tIfS (tTestQ (tOp (rNeD G.K) (tVar 11) (tLstQ tNil))) (tSeq (tAsg (tCallQ G 5 "_law_pick" (tCons (tVar 1) (tCons (tVar 11) tNil))) (gName 12))
    (tIfS (tTestQ (tOp rNe (tMethQ G 5 "come" (tVar 7) (tCons (tVar 12) tNil)) (tCallQ G 5 "_law_arrive" (tCons (tVar 8) (tCons (tVar 12) tNil))))) (tRet (tC (.bl false))) tNext)) tNext))))))
    (tRet (tC (.bl true)))))))))))))
theorem dv_law {G : En} (W : Wd G) {qual : Str} {f : Addr} {cdv : Value} {A : Around} {outer : List Env} {s : Shared} {H : Hp} {E : XK} (hr : rm0 5 qual s_law f cdv A s) : PSs (cx0 G N_law qual s_law f cdv A outer s H E) (defBody s_law) (t_law G) :=
    (pss_cons (ps_set (i := 1) sc_law.nd rfl (Or.inl rfl) (e_call hr (by rfl) (pa_cons (pv 0) pa_nil)))
    (pss_cons (ps_set (i := 2) sc_law.nd rfl (Or.inl rfl) (pe_op op_add pe_int (e_call hr (by rfl) (pa_cons (pv 1) (pa_cons pe_int pa_nil)))))
    (pss_cons (ps_set (i := 3) sc_law.nd rfl (Or.inr rfl) (e_call hr (by rfl) (pa_cons (pv 1) (pa_cons pe_int pa_nil))))
    (pss_cons (ps_set (i := 4) sc_law.nd rfl (Or.inr rfl) (e_call hr (by rfl) (pa_cons (pv 1) (pa_cons (e_lst (pa_cons pe_int (pa_cons pe_int (pa_cons pe_int (pa_cons pe_int (pa_cons pe_int pa_nil)))))) pa_nil))))
    (pss_cons (s_setLc (i := 5) (own := [("_law_k", 6)]) (g := (gName 6)) rfl sc_law.nd rfl rfl (sw_true rfl rfl rfl (by decide +kernel)) (i_rng1 (by rfl) W.z_range (pa_cons (pv 2) pa_nil)) (blkOk_by (own := [("_law_k", 6)]) (N := N_law) (sc := defScope s_law) (by decide +kernel)) (fun _ _ _ _ _ => (pg_name (i := 6) sc_law.nd rfl (Or.inl rfl))) (fun _ _ _ _ _ => pts_nil) (fun _ _ _ _ _ => (pe_op op_mod (pe_op op_add (pv 3) (pe_op op_mul (pv 4) (pv 6))) pe_int)))
    (pss_cons (ps_if (b_cmp op_eq (pv 4) pe_int (nomark _)) (pss_one (s_setLc (i := 5) (own := [("_law_k", 6)]) (g := (gName 6)) rfl sc_law.nd rfl rfl (sw_true rfl rfl rfl (by decide +kernel)) (i_rng1 (by rfl) W.z_range (pa_cons (pv 2) pa_nil)) (blkOk_by (own := [("_law_k", 6)]) (N := N_law) (sc := defScope s_law) (by decide +kernel)) (fun _ _ _ _ _ => (pg_name (i := 6) sc_law.nd rfl (Or.inl rfl))) (fun _ _ _ _ _ => pts_nil) (fun _ _ _ _ _ => (pe_op op_add (pe_op op_mod (pe_op op_mul (pe_op op_mul (pv 6) (pv 6)) pe_int) pe_int) (pv 6))))) pss_nil)
    (pss_cons (ps_if (b_cmp op_lt (e_lenSet rfl (by rfl) W.z_len (by rfl) W.z_set (pv 5)) (pv 2) (nomark _)) (pss_one (ps_set (i := 5) sc_law.nd rfl (Or.inl rfl) (e_lrg rfl (by rfl) W.z_list (by rfl) W.z_range (pv 2)))) pss_nil)
    (pss_cons (ps_set (i := 7) sc_law.nd rfl (Or.inr rfl) (e_make hr (by rfl) (pa_cons (pv 5) pa_nil)))
    (pss_cons (ps_set (i := 8) sc_law.nd rfl (Or.inr rfl) (e_lst (pa_cons (pv 5) (pa_cons (pe_op op_rep (e_lst (pa_cons pe_bl pa_nil)) (pv 2)) (pa_cons (pe_op op_rep (e_lst (pa_cons pe_non pa_nil)) (pv 2)) (pa_cons (e_lc (own := [("_law_name", 9)]) (g := (gName 9)) rfl sc_law.nd (i_list (pv 5)) (blkOk_by (own := [("_law_name", 9)]) (N := N_law) (sc := defScope s_law) (by decide +kernel)) (fun _ _ _ _ _ => (pg_name (i := 9) sc_law.nd rfl (Or.inl rfl))) (fun _ _ _ _ _ => pts_nil) (fun _ _ _ _ _ => (e_lst pa_nil))) (pa_cons pe_int pa_nil)))))))
    (pss_cons (s_for PassesOwn.never rfl (i_rng1 (by rfl) W.z_range (pa_cons pe_int pa_nil)) (pg_name (i := 10) sc_law.nd rfl (Or.inl rfl)) (pss_cons (s_setLc (i := 11) (own := [("_law_place", 12)]) (g := (gName 12)) rfl sc_law.nd rfl rfl (sw_true rfl rfl rfl (by decide +kernel)) (i_rng1 (by rfl) W.z_range (pa_cons (pv 2) pa_nil)) (blkOk_by (own := [("_law_place", 12)]) (N := N_law) (sc := defScope s_law) (by decide +kernel)) (fun _ _ _ _ _ => (pg_name (i := 12) sc_law.nd rfl (Or.inl rfl))) (fun _ _ _ _ _ => (pts_one (b_cmp (op_neD hr.units) (pe_ix ix_list (pe_ix ix_list (pv 8) pe_int (fun _ _ => rfl)) (pv 12) (fun _ _ => rfl)) (e_lst pa_nil) (nomark _)))) (fun _ _ _ _ _ => (pv 12)))
    (pss_cons (ps_if (PW.pt (pw_or (b_cmp (op_neD hr.units) (e_meth0 hr (pv 7)) (pv 11) (nomark _)) (pw_or (b_cmp op_ne (e_meth0 hr (pv 7)) (pe_ix ix_list (pv 8) pe_int (fun _ _ => rfl)) (nomark _)) (pw_or1 (b_cmp (op_neD hr.units) (e_lc (own := [("_law_k", 6)]) (g := (gName 6)) rfl sc_law.nd (i_rng1 (by rfl) W.z_range (pa_cons (pv 2) pa_nil)) (blkOk_by (own := [("_law_k", 6)]) (N := N_law) (sc := defScope s_law) (by decide +kernel)) (fun _ _ _ _ _ => (pg_name (i := 6) sc_law.nd rfl (Or.inl rfl))) (fun _ _ _ _ _ => pts_nil) (fun _ _ _ _ _ => (e_meth hr (pv 7) (pa_cons (pv 6) pa_nil)))) (pe_ix ix_list (pv 8) pe_int (fun _ _ => rfl)) (nomark _)))))) (pss_one (ps_ret pe_bl)) pss_nil)
    (pss_cons (ps_set (i := 12) sc_law.nd rfl (Or.inl rfl) (e_call hr (by rfl) (pa_cons (pv 1) (pa_cons (pv 2) pa_nil))))
    (pss_one (ps_if (PW.pt (pw_and (PW.pt (pw_or (b_cmp (op_eqD hr.units) (pv 11) (e_lst pa_nil) (nomark _)) (pw_or (b_cmp op_lt (pv 10) pe_int (nomark _)) (pw_or1 (b_cmp op_eq (e_call hr (by rfl) (pa_cons (pv 1) (pa_cons pe_int pa_nil))) pe_int (nomark _)))))) (pw_and (pt_not (b_val (pe_ix ix_list (pe_ix ix_list (pv 8) pe_int (fun _ _ => rfl)) (pv 12) (fun _ _ => rfl)))) (pw_and1 (b_cmp c_isN (pe_ix ix_list (pe_ix ix_list (pv 8) pe_int (fun _ _ => rfl)) (pv 12) (fun _ _ => rfl)) pe_non (nomark _)))))) (pss_cons (ps_expr (e_meth hr (pv 7) (pa_cons (pv 12) pa_nil)))
    (pss_one (ps_expr (e_call hr (by rfl) (pa_cons (pv 8) (pa_cons (pv 12) pa_nil)))))) (pss_one (ps_if (b_cmp (op_neD hr.units) (pv 11) (e_lst pa_nil) (nomark _)) (pss_cons (ps_set (i := 12) sc_law.nd rfl (Or.inl rfl) (e_call hr (by rfl) (pa_cons (pv 1) (pa_cons (pv 11) pa_nil))))
    (pss_one (ps_if (b_cmp op_ne (e_meth hr (pv 7) (pa_cons (pv 12) pa_nil)) (e_call hr (by rfl) (pa_cons (pv 8) (pa_cons (pv 12) pa_nil))) (nomark _)) (pss_one (ps_ret pe_bl)) pss_nil))) pss_nil))))))))
    (pss_one (ps_ret pe_bl))))))))))))
theorem fnq_law {G : En} (W : Wd G) {sp : Sp} (len : ∀ vs H Q E, sp vs H Q E → vs.length = 1) (pure : ∀ vs H Q E, sp vs H Q E → t_law G { nx := fun _ H' => Q .non H', rt := Q } (start N_law vs) H) {fd : FuncData} (F : FnP G.K "law" "law" s_law [] (He.ga G.K "law") fd) : FnG G CX0 6 (He.ga G.K "law") fd ["_law_script"] sp :=
  fn_ok0 F sc_law len (fun _ _ _ _ _ _ hr => dv_law W hr) pure

/-! ### the stepper -/
local macro_rules | `(tactic| walk_at "ne") => `(tactic| first
  | assumption
  | (apply Ne.symm; assumption)
  | (apply ne_new; assumption; walk_at "hp")
  | (apply Ne.symm; apply ne_new; assumption; walk_at "hp"))
local macro_rules | `(tactic| walk_at "hp") => `(tactic| first
  | assumption
  | exact upd_same
  | (apply upd_at; (walk_at "hp"); (walk_at "ne")))
local macro_rules | `(tactic| walk_at "fr") => `(tactic| first
  | assumption
  | exact Fr.refl _
  | (apply Fr.then_put_new; (walk_at "fr"); assumption)
  | (apply Fr.then_new; (walk_at "fr"); assumption)
  | (apply Fr.then_put; (walk_at "fr"); (walk_at "hp"); exact trivial; (first | exact rfl | assumption | exact Or.inl rfl | exact Or.inr rfl)))
local macro_rules | `(tactic| walk_at "ix") => `(tactic| first
  | (exact rfl)
  | assumption
  | (apply map_ix; assumption))
local macro_rules | `(tactic| walk_at "s0") => `(tactic| first
  | (with_reducible refine x_seq ?_)
  | ((with_reducible apply x_var); exact rfl)
  | (with_reducible refine x_c ?_)
  | (with_reducible refine x_op ?_)
  | (with_reducible refine x_I0 ?_)
  | (with_reducible refine x_eqI ?_)
  | (with_reducible refine x_neI ?_)
  | (with_reducible refine x_eqS ?_)
  | (with_reducible refine x_neS ?_)
  | (with_reducible refine x_eqB ?_)
  | (with_reducible refine x_isNn ?_)
  | (with_reducible refine x_isNi ?_)
  | (with_reducible refine x_isNr ?_)
  | (with_reducible refine x_notNn ?_)
  | (with_reducible refine x_notNi ?_)
  | (with_reducible refine x_notNr ?_)
  | (with_reducible refine x_isN ?_)
  | (with_reducible refine x_notN ?_)
  | (with_reducible refine x_cons ?_)
  | (with_reducible refine x_nil ?_)
  | (with_reducible refine x_fld ?_)
  | ((with_reducible apply x_fldg); (walk_at "hp"); (walk_at "cls"); (walk_at "na"); (exact rfl))
  | (with_reducible refine x_sfld ?_)
  | ((with_reducible apply x_putg); (walk_at "hp"); (walk_at "cls"); (walk_at "na"); (exact Nat.le_of_ble_eq_true rfl); (exact rfl))
  | (with_reducible refine x_meth ?_)
  | ((with_reducible apply x_methg); (walk_at "hp"); assumption; (exact (by decide)); (exact rfl))
  | (with_reducible refine x_call (by assumption) (by decide) ?_)
  | (with_reducible refine x_make (by assumption) (by decide) ?_)
  | (with_reducible refine x_test ?_)
  | (with_reducible refine x_isB ?_)
  | (with_reducible refine x_cb ?_)
  | ((with_reducible apply x_lenL); (walk_at "hp"))
  | ((with_reducible apply x_lenT); (walk_at "hp"))
  | (with_reducible refine x_lenSet ?_)
  | (with_reducible refine x_lrg ?_)
  | (with_reducible refine x_bm ?_)
  | ((with_reducible apply x_bmL); (walk_at "hp"))
  | ((with_reducible refine x_new ?_ ?_); (exact Nat.le_of_ble_eq_true rfl); intro _ _)
  | ((with_reducible apply x_ixL); (walk_at "hp"); (exact rfl); (walk_at "ix"))
  | ((with_reducible apply x_ixT); (walk_at "hp"); (exact rfl); (walk_at "ix"))
  | (with_reducible refine x_tup ?_)
  | (with_reducible refine x_lst ?_)
  | (with_reducible refine x_chain ?_)
  | (with_reducible refine x_chn ?_)
  | (with_reducible refine x_andV ?_)
  | (with_reducible refine x_andg ?_)
  | (with_reducible refine x_orV ?_)
  | (with_reducible refine x_org ?_)
  | (with_reducible refine x_notV ?_)
  | (with_reducible refine x_notg ?_)
  | (with_reducible refine x_and ?_)
  | (with_reducible refine x_or ?_)
  | (with_reducible refine x_not ?_)
  | (with_reducible refine x_ifE ?_)
  | (with_reducible refine x_dget ?_)
  | (with_reducible refine x_asg ?_)
  | (with_reducible refine x_gname ?_)
  | ((with_reducible apply x_gtup); (walk_at "hp"); (exact rfl))
  | (with_reducible refine x_gcons ?_)
  | (with_reducible refine x_gnil ?_)
  | (with_reducible refine x_gsub ?_)
  | (with_reducible refine x_ret ?_)
  | (with_reducible refine x_retN ?_)
  | (with_reducible refine x_drop ?_)
  | (with_reducible refine x_next ?_)
  | (with_reducible refine x_for ?_)
  | (with_reducible refine x_lc ?_)
  | (with_reducible refine x_rng1 ?_)
  | (with_reducible refine x_rng2 ?_)
  | (with_reducible refine x_ilist ?_)
  | ((with_reducible apply x_itl); (walk_at "hp"))
  | (with_reducible refine x_isiII ?_)
  | (with_reducible refine x_isiIB ?_)
  | (with_reducible refine x_isiBI ?_)
  | (with_reducible refine x_isiBB ?_)
  | (with_reducible refine x_isiNI ?_)
  | (with_reducible refine x_isiNL ?_)
  | (with_reducible refine x_isiIL ?_)
  | (with_reducible refine x_isiSI ?_)
  | (with_reducible refine x_isiSL ?_)
  | ((with_reducible apply x_isiLL); (walk_at "hp"))
  | ((with_reducible apply x_isiLI); (walk_at "hp"))
  | ((with_reducible apply x_isiTL); (walk_at "hp"))
  | ((with_reducible apply x_isiTT); (walk_at "hp"))
  | ((with_reducible apply x_isiLT); (walk_at "hp"))
  | (with_reducible refine x_nt ?_)
  | (with_reducible refine x_nf ?_)
  | (with_reducible refine x_nnt ?_)
  | (with_reducible refine x_nnf ?_)
  | (with_reducible refine x_t ?_)
  | (with_reducible refine x_f ?_)
  | ((with_reducible refine x_dt ?_ ?_); (first | assumption | exact rfl))
  | ((with_reducible refine x_ndt ?_ ?_); (first | assumption | exact rfl))
  | ((with_reducible refine x_df ?_ ?_); assumption)
  | ((with_reducible refine x_ndf ?_ ?_); assumption)
  | ((with_reducible refine x_mod ?_ ?_); (first | exact (by decide) | assumption))
  | ((with_reducible refine x_div ?_ ?_); (first | exact (by decide) | assumption))
  | ((with_reducible refine x_mulL ?_ ?_); (first | exact (by decide) | assumption))
  | ((with_reducible refine x_mulR ?_ ?_); (first | exact (by decide) | assumption)))
local macro_rules | `(tactic| walk_at "s") => `(tactic| first
  | (walk_at "s0")
  | (with_reducible refine x_ifs ?_))
local macro_rules | `(tactic| walk_at "st") => `(tactic| repeat (walk_at "s"))
local macro_rules | `(tactic| walk_at "sq") => `(tactic| repeat (walk_at "s0"))
local macro_rules | `(tactic| walk_at "cls") => `(tactic| first
  | assumption
  | (with_reducible exact Wd.c_Choice (by assumption))
)
local macro_rules | `(tactic| walk_at "na") => `(tactic| first
  | assumption
  | (with_reducible exact Wd.na_Choice_names (by assumption))
  | (with_reducible exact Wd.na_Choice_active (by assumption))
  | (with_reducible exact Wd.na_Choice_known (by assumption))
  | (with_reducible exact Wd.na_Choice_rows (by assumption))
  | (with_reducible exact Wd.na_Choice_sent (by assumption))
)
/-! ### numbers, the town of draws -/
def spIsWhole : Sp := fun vs H Q _ => ∃ i lo hi : Int, vs = [.int i, .int lo, .int hi] ∧ Q (.bl (decide (lo ≤ i ∧ i ≤ hi))) H
theorem ok_is_whole {G : En} (W : Wd G) : CalG G 1 "is_whole" spIsWhole [] := by
  refine run_is_whole W (fun vs H Q E h => ?_) (fun vs H Q E h => ?_)
  · obtain ⟨i, lo, hi, rfl, _⟩ := h
    rfl
  · obtain ⟨i, lo, hi, rfl, k⟩ := h
    unfold t_is_whole
    walk_at "st"
    refine x_d2 (fun h1 => ?_) (fun h1 => ?_)
    · walk_at "st"
      show Q _ H
      rw [show decide (i ≤ hi) = decide (lo ≤ i ∧ i ≤ hi) by simp [h1]]
      exact k
    · show Q _ H
      rw [show false = decide (lo ≤ i ∧ i ≤ hi) by simp [h1]]
      exact k
/-- the cells at c, the number of draws -/
structure TownAt (H : Hp) (t c : Addr) : Prop where
  ne : t ≠ c
  ex : ∃ (ns : List Int) (k : Int), H t = some (.lst [.ref c, .int k]) ∧ H c = some (.lst (ns.map V.int)) ∧ ns ≠ [] ∧ ns.length ≤ 63
def tF (t c : Addr) : Addr → Prop := fun b => b = t ∨ b = c
theorem TownAt.fr {F : Addr → Prop} {H H' : Hp} {t c : Addr} (h : TownAt H t c) (f : Fr F H H') (n1 : ¬ F t) (n2 : ¬ F c) : TownAt H' t c := by
  obtain ⟨ne, ns, k, h1, h2, h3, h4⟩ := h
  exact ⟨ne, ns, k, f.keep _ _ h1 n1, f.keep _ _ h2 n2, h3, h4⟩
theorem TownAt.fr0 {H H' : Hp} {t c : Addr} (h : TownAt H t c) (f : Fr F0 H H') : TownAt H' t c := h.fr f id id
def spTown (K : PySem.W.Frag) : Sp := fun vs H Q _ => ∃ (a : Addr) (ns : List Int), vs = [.ref a] ∧ SqL K H a (ns.map V.int) ∧ ns.length ≤ 63 ∧
  ∀ t c H', H t = none → H c = none → TownAt H' t c → Fr F0 H H' → Q (.ref t) H'
theorem ok_town {G : En} (W : Wd G) : CalG G 1 "_law_town" (spTown G.K) [] := by
  refine run__law_town W (fun vs H Q E h => ?_) (fun vs H Q E h => ?_)
  · obtain ⟨a, ns, rfl, _⟩ := h
    rfl
  · obtain ⟨a, ns, rfl, hS, hl, k⟩ := h
    unfold t__law_town
    walk_at "st"
    rename_i e he
    have f0 : Fr F0 H (upd H e (.lst [])) := .new he
    have hS' : SqL G.K (upd H e (.lst [])) a (ns.map V.int) := SqL.fr f0 id hS
    refine x_neL encInt (lst_ints hS') (lst_nil encInt upd_same) ?_
    walk_at "st"
    refine x_nd2 (fun h1 => ?_) (fun h1 => ?_)
    · walk_at "st"
      refine x_listL hS' fun c hc => ?_
      walk_at "st"
      rename_i t ht
      obtain ⟨tc, ht⟩ := upd_none.mp ht
      refine k t c _ (f0.back0 ht) (f0.back0 hc) ⟨tc, ns, 0, upd_same, upd_at upd_same tc.symm, h1, hl⟩ ((f0.then_new hc).then_new (upd_none.mpr ⟨tc, ht⟩))
    · walk_at "st"
      rename_i c hc t ht
      obtain ⟨tc, ht⟩ := upd_none.mp ht
      exact k t c _ (f0.back0 ht) (f0.back0 hc) ⟨tc, [0], 0, upd_same, upd_at upd_same tc.symm, by simp, by simp⟩ ((f0.then_new hc).then_new (upd_none.mpr ⟨tc, ht⟩))
def spDraw : Sp := fun vs H Q _ => ∃ (t c : Addr) (m : Int), vs = [.ref t, .int m] ∧ TownAt H t c ∧ 0 < m ∧ m < 1000000 ∧
  ∀ r H', 0 ≤ r → r < m → TownAt H' t c → Fr (tF t c) H H' → Q (.int r) H'
theorem ok_draw {G : En} (W : Wd G) : CalG G 1 "_law_draw" spDraw [] := by
  refine run__law_draw W (fun vs H Q E h => ?_) (fun vs H Q E h => ?_)
  · obtain ⟨t, c, m, rfl, _⟩ := h
    rfl
  · obtain ⟨t, c, m, rfl, ⟨ne, ns, kk, h1, h2, h3, h4⟩, m0, m1, k⟩ := h
    unfold t__law_draw
    walk_at "st"
    refine x_setL (i := 1) h1 rfl (by simp) ?_
    have g1 : upd H t (.lst (List.set [V.ref c, .int kk] 1 (.int (kk + 1)))) t = some (.lst [V.ref c, .int (kk + 1)]) := upd_same
    have g2 : upd H t (.lst (List.set [V.ref c, .int kk] 1 (.int (kk + 1)))) c = some (.lst (ns.map V.int)) := upd_at h2 ne.symm
    have f1 : Fr (tF t c) H (upd H t (.lst (List.set [V.ref c, .int kk] 1 (.int (kk + 1))))) := .put h1 trivial (.inl rfl)
    generalize upd H t (.lst (List.set [V.ref c, .int kk] 1 (.int (kk + 1)))) = H1 at *
    have L0 : 0 < ns.length := List.length_pos_iff.mpr h3
    walk_at "st"
    refine x_mod (by rw [List.length_map]; omega) ?_
    obtain ⟨i, ei, li⟩ := mod_nat (n := kk + 1) (L := (ns.map V.int).length) (by rw [List.length_map]; exact L0)
    rw [ei]
    rw [List.length_map] at li
    obtain ⟨x, hx⟩ := at_lt li
    walk_at "st"
    refine x_d2 (fun c1 => ?_) (fun c1 => ?_)
    · walk_at "st"
      refine x_div ⟨m0, by omega⟩ ?_
      walk_at "st"
      refine x_setL g2 rfl (by rw [List.length_map]; exact li) ?_
      rw [map_set V.int]
      walk_at "st"
      have a1 := Int.emod_nonneg x (show m ≠ 0 by omega)
      have a2 := Int.emod_lt_of_pos x m0
      exact k _ _ a1 a2 ⟨ne, ns.set i (x / m), kk + 1, upd_at g1 ne, upd_same, by intro z; exact h3 (by simpa using z), by rw [List.length_set]; exact h4⟩
        (f1.then_put g2 trivial (.inr rfl))
    · walk_at "st"
      generalize hz : (x + 104729 * (kk + 1)) % 4294967291 = z
      have z0 := Int.emod_nonneg (x + 104729 * (kk + 1)) (show (4294967291 : Int) ≠ 0 by decide)
      have z1 := Int.emod_lt_of_pos (x + 104729 * (kk + 1)) (show (0 : Int) < 4294967291 by decide)
      refine x_I ⟨by decide, by decide, by omega⟩ ?_
      walk_at "st"
      exact k _ _ (Int.emod_nonneg _ (show m ≠ 0 by omega)) (Int.emod_lt_of_pos _ m0) ⟨ne, ns, kk + 1, g1, g2, h3, h4⟩ f1
def spPick : Sp := fun vs H Q _ => ∃ (t c l : Addr) (xs : List V), vs = [.ref t, .ref l] ∧ TownAt H t c ∧ H l = some (.lst xs) ∧ l ≠ t ∧ l ≠ c ∧ xs ≠ [] ∧ xs.length ≤ 1000 ∧
  ∀ (i : Nat) v H', xs[i]? = some v → TownAt H' t c → Fr (tF t c) H H' → Q v H'
theorem ok_pick {G : En} (W : Wd G) (c1 : CalG G 1 "_law_draw" spDraw []) : CalG G 2 "_law_pick" spPick [] := by
  refine run__law_pick W (fun vs H Q E h => ?_) (fun vs H Q E h => ?_)
  · obtain ⟨t, c, l, xs, rfl, _⟩ := h
    rfl
  · obtain ⟨t, c, l, xs, rfl, hT, hl, n1, n2, hx, hn, k⟩ := h
    unfold t__law_pick
    walk_at "st"
    have := List.length_pos_iff.mpr hx
    refine ⟨t, c, _, rfl, hT, by omega, by omega, fun r H' r0 r1 hT' f => ?_⟩
    obtain ⟨i, rfl⟩ := Int.eq_ofNat_of_zero_le r0
    obtain ⟨v, hv⟩ := at_lt (xs := xs) (i := i) (by omega)
    have hl' : H' l = some (.lst xs) := f.keep _ _ hl (by rintro (z | z) <;> contradiction)
    walk_at "st"
    exact k i v H' hv hT' f
/-! ### a ring of choosing places: what it holds -/
structure ChSt where
  names : List Int
  act : List Bool
  known : List (Option Int)
  rows : List (List Let)
  sent : Int
structure ChL where
  root : Addr
  body : Int → HO
  ln : Addr
  la : Addr
  lk : Addr
  lr : Addr
  rws : List Addr
  nt : ∀ i, noTup (body i)
abbrev ChL.all (L : ChL) : List Addr := L.root :: L.ln :: L.la :: L.lk :: L.lr :: L.rws
def ChM (L : ChL) : Addr → Prop := fun b => b ∈ L.all
structure ChAt (H : Hp) (L : ChL) (S : ChSt) : Prop where
  rt : H L.root = some (L.body S.sent)
  nm : H L.ln = some (.lst (S.names.map V.int))
  ac : H L.la = some (.lst (S.act.map V.bl))
  kn : H L.lk = some (.lst (S.known.map optV))
  rw : H L.lr = some (.lst (L.rws.map V.ref))
  row : ∀ (i : Nat) p r, L.rws[i]? = some p → S.rows[i]? = some r → ∃ ts, H p = some (.lst (ts.map V.ref)) ∧ Lets H ts r
  l1 : S.act.length = S.names.length
  l2 : S.known.length = S.names.length
  l3 : S.rows.length = S.names.length
  l4 : L.rws.length = S.names.length
  nd : L.all.Nodup
theorem ChAt.fr {F : Addr → Prop} {H H' : Hp} {L : ChL} {S : ChSt} (h : ChAt H L S) (f : Fr F H H') (n : ∀ b, ChM L b → ¬ F b) : ChAt H' L S where
  rt := f.keep _ _ h.rt (n _ (by simp [ChM]))
  nm := f.keep _ _ h.nm (n _ (by simp [ChM]))
  ac := f.keep _ _ h.ac (n _ (by simp [ChM]))
  kn := f.keep _ _ h.kn (n _ (by simp [ChM]))
  rw := f.keep _ _ h.rw (n _ (by simp [ChM]))
  row := fun i p r hp hr => by
    obtain ⟨ts, h1, h2⟩ := h.row i p r hp hr
    exact ⟨ts, f.keep _ _ h1 (n _ (by simp [ChM, List.mem_of_getElem? hp])), h2.fr f⟩
  l1 := h.l1
  l2 := h.l2
  l3 := h.l3
  l4 := h.l4
  nd := h.nd
theorem ChAt.fr0 {H H' : Hp} {L : ChL} {S : ChSt} (h : ChAt H L S) (f : Fr F0 H H') : ChAt H' L S := h.fr f fun _ _ z => z
structure ChNe (L : ChL) : Prop where
  a1 : L.root ≠ L.ln
  a2 : L.root ≠ L.la
  a3 : L.root ≠ L.lk
  a4 : L.root ≠ L.lr
  a5 : ∀ p ∈ L.rws, p ≠ L.root
  b2 : L.ln ≠ L.la
  b3 : L.ln ≠ L.lk
  b4 : L.ln ≠ L.lr
  b5 : ∀ p ∈ L.rws, p ≠ L.ln
  c3 : L.la ≠ L.lk
  c4 : L.la ≠ L.lr
  c5 : ∀ p ∈ L.rws, p ≠ L.la
  d4 : L.lk ≠ L.lr
  d5 : ∀ p ∈ L.rws, p ≠ L.lk
  e5 : ∀ p ∈ L.rws, p ≠ L.lr
  f5 : L.rws.Nodup
theorem ChAt.ne {H : Hp} {L : ChL} {S : ChSt} (h : ChAt H L S) : ChNe L := by
  have nd := h.nd
  simp only [ChL.all, List.nodup_cons, List.mem_cons, not_or] at nd
  obtain ⟨⟨a1, a2, a3, a4, a5⟩, ⟨b2, b3, b4, b5⟩, ⟨c3, c4, c5⟩, ⟨d4, d5⟩, e5, f5⟩ := nd
  exact ⟨a1, a2, a3, a4, fun p m z => a5 (z ▸ m), b2, b3, b4, fun p m z => b5 (z ▸ m), c3, c4, fun p m z => c5 (z ▸ m), d4, fun p m z => d5 (z ▸ m), fun p m z => e5 (z ▸ m), f5⟩
theorem nodup_ix {α : Type} {xs : List α} (h : xs.Nodup) {i j : Nat} {x : α} (hi : xs[i]? = some x) (hj : xs[j]? = some x) : i = j := by
  obtain ⟨li, ei⟩ := List.getElem?_eq_some_iff.mp hi
  obtain ⟨lj, ej⟩ := List.getElem?_eq_some_iff.mp hj
  have P := List.pairwise_iff_getElem.mp h
  rcases Nat.lt_trichotomy i j with z | z | z
  · exact absurd (ei.trans ej.symm) (P i j li lj z)
  · exact z
  · exact absurd (ej.trans ei.symm) (P j i lj li z)
theorem Lets.put {H : Hp} {p : Addr} {o u : HO} (e : H p = some u) (nt : noTup u) {ts : List Addr} {ws : List Let} (h : Lets H ts ws) : Lets (upd H p o) ts ws :=
  h.fr (Fr.put (F := fun _ => True) e nt trivial)
theorem ChAt.setAct {H : Hp} {L : ChL} {S : ChSt} (h : ChAt H L S) (i : Nat) (b : Bool) : ChAt (upd H L.la (.lst ((S.act.set i b).map V.bl))) L { S with act := S.act.set i b } := by
  have n := h.ne
  exact ⟨upd_at h.rt n.a2, upd_at h.nm n.b2, upd_same, upd_at h.kn n.c3.symm, upd_at h.rw n.c4.symm, fun j p r hp hr => by
    obtain ⟨ts, h1, h2⟩ := h.row j p r hp hr
    exact ⟨ts, upd_at h1 (n.c5 p (List.mem_of_getElem? hp)), h2.put h.ac trivial⟩, by simpa using h.l1, h.l2, h.l3, h.l4, h.nd⟩
theorem ChAt.setKn {H : Hp} {L : ChL} {S : ChSt} (h : ChAt H L S) (i : Nat) (b : Option Int) : ChAt (upd H L.lk (.lst ((S.known.set i b).map optV))) L { S with known := S.known.set i b } := by
  have n := h.ne
  exact ⟨upd_at h.rt n.a3, upd_at h.nm n.b3, upd_at h.ac n.c3, upd_same, upd_at h.rw n.d4.symm, fun j p r hp hr => by
    obtain ⟨ts, h1, h2⟩ := h.row j p r hp hr
    exact ⟨ts, upd_at h1 (n.d5 p (List.mem_of_getElem? hp)), h2.put h.kn trivial⟩, h.l1, by simpa using h.l2, h.l3, h.l4, h.nd⟩
theorem ChAt.setSent {H : Hp} {L : ChL} {S : ChSt} (h : ChAt H L S) (m : Int) : ChAt (upd H L.root (L.body m)) L { S with sent := m } := by
  have n := h.ne
  exact ⟨upd_same, upd_at h.nm n.a1.symm, upd_at h.ac n.a2.symm, upd_at h.kn n.a3.symm, upd_at h.rw n.a4.symm, fun j p r hp hr => by
    obtain ⟨ts, h1, h2⟩ := h.row j p r hp hr
    exact ⟨ts, upd_at h1 (n.a5 p (List.mem_of_getElem? hp)), h2.put h.rt (L.nt _)⟩, h.l1, h.l2, h.l3, h.l4, h.nd⟩
theorem ChAt.setRow {H : Hp} {L : ChL} {S : ChSt} (h : ChAt H L S) {i : Nat} {p : Addr} {r : List Let} {ts : List Addr} (hp : L.rws[i]? = some p) (hl : Lets H ts r) :
    ChAt (upd H p (.lst (ts.map V.ref))) L { S with rows := S.rows.set i r } := by
  have n := h.ne
  have m := List.mem_of_getElem? hp
  obtain ⟨r0, hr0⟩ := at_lt (xs := S.rows) (i := i) (by rw [h.l3, ← h.l4]; exact lt_at hp)
  obtain ⟨ts0, h0, _⟩ := h.row i p r0 hp hr0
  exact ⟨upd_at h.rt (n.a5 p m).symm, upd_at h.nm (n.b5 p m).symm, upd_at h.ac (n.c5 p m).symm, upd_at h.kn (n.d5 p m).symm, upd_at h.rw (n.e5 p m).symm, fun j q r' hq hr => by
    by_cases e : i = j
    · subst e
      rw [hp] at hq; cases hq
      rw [List.getElem?_set_self (lt_at hr0)] at hr; cases hr
      exact ⟨ts, upd_same, hl.put h0 trivial⟩
    · rw [List.getElem?_set_ne e] at hr
      obtain ⟨ts', h1, h2⟩ := h.row j q r' hq hr
      exact ⟨ts', upd_at h1 (fun z => e (nodup_ix n.f5 hp (z ▸ hq))), h2.put h0 trivial⟩, h.l1, h.l2, by simpa using h.l3, h.l4, h.nd⟩
def ChSt.put (S : ChSt) (i : Nat) (w : Let) : ChSt := { S with rows := S.rows.set i (S.rows.getD i [] ++ [w]), sent := S.sent + 1 }
def ChSt.begun (S : ChSt) (i : Nat) : ChSt := ({ S with act := S.act.set i true } : ChSt).put i (false, S.names.getD i 0)
def ChSt.heard (S : ChSt) (i : Nat) (x : Int) : ChSt :=
  if x = S.names.getD i 0 then ({ S with known := S.known.set i (some x) } : ChSt).put i (true, x)
  else if S.names.getD i 0 < x then ({ S with act := S.act.set i true } : ChSt).put i (false, x)
  else if S.act.getD i false = true then S else S.begun i
def ChSt.cameAt (S : ChSt) (a : Nat) (w : Let) : ChSt :=
  if w.1 = true then (if S.known.getD a none = none then ({ S with known := S.known.set a (some w.2) } : ChSt).put a (true, w.2) else S) else S.heard a w.2
def ChSt.came (S : ChSt) (i : Nat) (w : Let) (r : List Let) : ChSt := ({ S with rows := S.rows.set i r } : ChSt).cameAt ((i + 1) % S.names.length) w
def ChSt.short (S : ChSt) (k : Nat) : Prop := ∀ (i : Nat) r, S.rows[i]? = some r → r.length ≤ k
theorem getD_at {α : Type} {xs : List α} {i : Nat} {x d : α} (h : xs[i]? = some x) : xs.getD i d = x := by rw [List.getD_eq_getElem?_getD, h]; rfl
/-- one letter more at a row -/
theorem ChAt.push {H : Hp} {L : ChL} {S : ChSt} (h : ChAt H L S) {i : Nat} {p t : Addr} {r : List Let} {ts : List Addr} {w : Let} (hp : L.rws[i]? = some p) (hr : S.rows[i]? = some r)
    (hl : Lets H ts r) (ht : H t = some (.tup [.str (wd w.1), .int w.2])) : ChAt (upd (upd H p (.lst (ts.map V.ref ++ [.ref t]))) L.root (L.body (S.sent + 1))) L (S.put i w) := by
  have := (h.setRow hp (hl.add ht)).setSent (S.sent + 1)
  rw [List.map_append] at this
  unfold ChSt.put
  rw [getD_at hr]
  exact this
theorem ChAt.rowF {H : Hp} {L : ChL} {S : ChSt} (h : ChAt H L S) {i : Nat} (hi : i < S.names.length) : ∃ p r ts, L.rws[i]? = some p ∧ S.rows[i]? = some r ∧ H p = some (.lst (ts.map V.ref)) ∧ Lets H ts r := by
  obtain ⟨p, hp⟩ := at_lt (xs := L.rws) (i := i) (by rw [h.l4]; exact hi)
  obtain ⟨r, hr⟩ := at_lt (xs := S.rows) (i := i) (by rw [h.l3]; exact hi)
  obtain ⟨ts, h1, h2⟩ := h.row i p r hp hr
  exact ⟨p, r, ts, hp, hr, h1, h2⟩
theorem ChM.row {L : ChL} {i : Nat} {p : Addr} (h : L.rws[i]? = some p) : ChM L p := by simp [ChM, List.mem_of_getElem? h]
theorem ChM.rt (L : ChL) : ChM L L.root := by simp [ChM]
theorem ChM.la (L : ChL) : ChM L L.la := by simp [ChM]
theorem ChM.lk (L : ChL) : ChM L L.lk := by simp [ChM]
/-- the ring as an object, the ring as a law's own list -/
def chObj (K : PySem.W.Frag) (L : ChL) : Prop := ∃ dx, L.body = fun s => .ins (He.ga K "Choice") dx [("names", .ref L.ln), ("active", .ref L.la), ("known", .ref L.lk), ("rows", .ref L.lr), ("sent", .int s)]
def chOwn (L : ChL) : Prop := L.body = fun s => .lst [.ref L.ln, .ref L.la, .ref L.lk, .ref L.lr, .int s]
/-! ### the methods -/
def spLook (K : PySem.W.Frag) : Sp := fun vs H Q _ => ∃ (L : ChL) (S : ChSt) (i : Nat), vs = [.ref L.root, .int i] ∧ chObj K L ∧ ChAt H L S ∧ i < S.names.length ∧ Q .non H
theorem ok_look {G : En} (W : Wd G) (q1 : CalG G 1 "is_whole" spIsWhole []) : MetG G 2 (cl_Choice G.K) "look_place" (spLook G.K) [] := by
  refine run_Choice_look_place W (fun vs H Q E h => ?_) (fun vs H Q E h => ?_)
  · obtain ⟨L, S, i, rfl, _⟩ := h
    rfl
  · obtain ⟨L, S, i, rfl, ⟨dx, e⟩, h, hi, k⟩ := h
    have rt := h.rt
    simp only [e] at rt
    have nm := h.nm
    unfold t_Choice_look_place
    walk_at "st"
    refine ⟨_, _, _, rfl, ?_⟩
    walk_at "st"
    refine x_ndt ⟨by omega, by rw [List.length_map]; omega⟩ ?_
    exact k
def spPut (K : PySem.W.Frag) : Sp := fun vs H Q _ => ∃ (L : ChL) (S : ChSt) (i : Nat) (b : Bool) (x : Int), vs = [.ref L.root, .int i, .str (wd b), .int x] ∧ chObj K L ∧ ChAt H L S ∧ i < S.names.length ∧ S.short 1000 ∧
  ∀ H', ChAt H' L (S.put i (b, x)) → Fr (ChM L) H H' → Q .non H'
theorem ok_put {G : En} (W : Wd G) : MetG G 1 (cl_Choice G.K) "put" (spPut G.K) [] := by
  refine run_Choice_put W (fun vs H Q E h => ?_) (fun vs H Q E h => ?_)
  · obtain ⟨L, S, i, b, x, rfl, _⟩ := h
    rfl
  · obtain ⟨L, S, i, b, x, rfl, ⟨dx, e⟩, h, hi, sh, k⟩ := h
    obtain ⟨p, r, ts, hp, hr, h1, h2⟩ := h.rowF hi
    have rt := h.rt
    simp only [e] at rt
    have rw_ := h.rw
    unfold t_Choice_put
    walk_at "st"
    refine x_app (upd_new h1 (by assumption)) (by have := sh i r hr; rw [List.length_map, h2.len]; omega) ?_
    rename_i t ht
    have f1 : Fr (ChM L) H (upd H t (.tup [.str (wd b), .int x])) := .new ht
    have h' := h.fr0 (.new (o := .tup [.str (wd b), .int x]) ht)
    have rt' := h'.rt
    simp only [e] at rt'
    have n1 := h'.ne.a5 p (List.mem_of_getElem? hp)
    walk_at "st"
    have := h'.push (w := (b, x)) hp hr (h2.fr (Fr.new (F := F0) ht)) upd_same
    simp only [e] at this
    exact k _ this ((f1.then_put (upd_new h1 ht) trivial (.row hp)).then_put (upd_at rt' n1.symm) trivial (.rt L))

theorem ChSt.put_names (S : ChSt) (i : Nat) (w : Let) : (S.put i w).names = S.names := rfl
def spBegin (K : PySem.W.Frag) : Sp := fun vs H Q _ => ∃ (L : ChL) (S : ChSt) (i : Nat), vs = [.ref L.root, .int i] ∧ chObj K L ∧ ChAt H L S ∧ i < S.names.length ∧ S.short 1000 ∧ S.act[i]? = some false ∧ S.known[i]? = some none ∧
  ∀ H', ChAt H' L (S.begun i) → Fr (ChM L) H H' → Q .non H'
theorem ok_begin {G : En} (W : Wd G) (q1 : MetG G 2 (cl_Choice G.K) "look_place" (spLook G.K) []) (q2 : MetG G 1 (cl_Choice G.K) "put" (spPut G.K) []) : MetG G 3 (cl_Choice G.K) "begin" (spBegin G.K) [] := by
  refine run_Choice_begin W (fun vs H Q E h => ?_) (fun vs H Q E h => ?_)
  · obtain ⟨L, S, i, rfl, _⟩ := h
    rfl
  · obtain ⟨L, S, i, rfl, ⟨dx, e⟩, h, hi, sh, ha, hk, k⟩ := h
    have rt := h.rt
    simp only [e] at rt
    have nm := h.nm
    have ac := h.ac
    have kn := h.kn
    unfold t_Choice_begin
    walk_at "st"
    refine ⟨L, S, i, rfl, ⟨dx, e⟩, h, hi, ?_⟩
    walk_at "st"
    refine x_setL ac rfl (by rw [List.length_map, h.l1]; exact hi) ?_
    rw [map_set V.bl]
    have h' := h.setAct i true
    have f1 : Fr (ChM L) H _ := .put (o := .lst ((S.act.set i true).map V.bl)) ac trivial (.la L)
    have rt' := h'.rt
    simp only [e] at rt'
    have nm' := h'.nm
    obtain ⟨x, hx⟩ := at_lt hi
    walk_at "st"
    refine ⟨L, { S with act := S.act.set i true }, i, false, x, rfl, ⟨dx, e⟩, h', hi, sh, fun H' h2 f2 => ?_⟩
    walk_at "st"
    refine k H' ?_ (f1.trans f2)
    unfold ChSt.begun
    rw [getD_at hx]
    exact h2
def spHeard (K : PySem.W.Frag) : Sp := fun vs H Q _ => ∃ (L : ChL) (S : ChSt) (i : Nat) (x : Int), vs = [.ref L.root, .int i, .int x] ∧ chObj K L ∧ ChAt H L S ∧ i < S.names.length ∧ S.short 1000 ∧
  (S.act[i]? = some false → S.known[i]? = some none) ∧ ∀ H', ChAt H' L (S.heard i x) → Fr (ChM L) H H' → Q .non H'
theorem ok_heard {G : En} (W : Wd G) (q1 : MetG G 3 (cl_Choice G.K) "begin" (spBegin G.K) []) (q2 : MetG G 1 (cl_Choice G.K) "put" (spPut G.K) []) : MetG G 4 (cl_Choice G.K) "heard" (spHeard G.K) [] := by
  refine run_Choice_heard W (fun vs H Q E h => ?_) (fun vs H Q E h => ?_)
  · obtain ⟨L, S, i, x, rfl, _⟩ := h
    rfl
  · obtain ⟨L, S, i, x, rfl, ⟨dx, e⟩, h, hi, sh, ha, k⟩ := h
    have rt := h.rt
    simp only [e] at rt
    have nm := h.nm
    have ac := h.ac
    have kn := h.kn
    obtain ⟨m, hm⟩ := at_lt hi
    obtain ⟨b, hb⟩ := at_lt (xs := S.act) (i := i) (by rw [h.l1]; exact hi)
    have E1 : S.heard i x = if x = m then ({ S with known := S.known.set i (some x) } : ChSt).put i (true, x) else if m < x then ({ S with act := S.act.set i true } : ChSt).put i (false, x) else if b = true then S else S.begun i := by
      unfold ChSt.heard
      rw [getD_at hm, getD_at hb]
    rw [E1] at k
    unfold t_Choice_heard
    walk_at "st"
    refine x_d2 (fun c => ?_) (fun c => ?_)
    · rw [if_pos c] at k
      subst c
      walk_at "st"
      refine x_setL kn rfl (by rw [List.length_map, h.l2]; exact hi) ?_
      rw [show V.int x = optV (some x) from rfl, map_set optV]
      have h' := h.setKn i (some x)
      have f1 : Fr (ChM L) H _ := .put (o := .lst ((S.known.set i (some x)).map optV)) kn trivial (.lk L)
      have rt' := h'.rt
      simp only [e] at rt'
      walk_at "st"
      refine ⟨L, { S with known := S.known.set i (some x) }, i, true, x, rfl, ⟨dx, e⟩, h', hi, sh, fun H' h2 f2 => ?_⟩
      walk_at "st"
      exact k H' h2 (f1.trans f2)
    · rw [if_neg c] at k
      walk_at "st"
      refine x_d2 (fun c2 => ?_) (fun c2 => ?_)
      · rw [if_pos c2] at k
        walk_at "st"
        refine x_setL ac rfl (by rw [List.length_map, h.l1]; exact hi) ?_
        rw [map_set V.bl]
        have h' := h.setAct i true
        have f1 : Fr (ChM L) H _ := .put (o := .lst ((S.act.set i true).map V.bl)) ac trivial (.la L)
        have rt' := h'.rt
        simp only [e] at rt'
        walk_at "st"
        refine ⟨L, { S with act := S.act.set i true }, i, false, x, rfl, ⟨dx, e⟩, h', hi, sh, fun H' h2 f2 => ?_⟩
        walk_at "st"
        exact k H' h2 (f1.trans f2)
      · rw [if_neg c2] at k
        walk_at "st"
        refine x_nb2 (fun c3 => ?_) (fun c3 => ?_)
        · subst c3
          walk_at "st"
          refine ⟨L, S, i, rfl, ⟨dx, e⟩, h, hi, sh, hb, ha hb, fun H' h2 f2 => ?_⟩
          walk_at "st"
          exact k H' h2 f2
        · subst c3
          walk_at "st"
          exact k H h (.refl H)
theorem nxt_cast (i n : Nat) : ((i : Int) + 1) % (n : Int) = (((i + 1) % n : Nat) : Int) := rfl
theorem nxt_lt {i n : Nat} (h : i < n) : (i + 1) % n < n := Nat.mod_lt _ (by omega)
theorem ChSt.short_set {S : ChSt} {k i : Nat} {r : List Let} (h : S.short k) (hr : r.length ≤ k) : ({ S with rows := S.rows.set i r } : ChSt).short k := fun j q hq => by
  by_cases e : i = j
  · subst e
    by_cases l : i < S.rows.length
    · rw [List.getElem?_set_self l] at hq; cases hq; exact hr
    · rw [List.getElem?_eq_none (by simp; omega)] at hq; cases hq
  · rw [List.getElem?_set_ne e] at hq; exact h j q hq
def spCome (K : PySem.W.Frag) : Sp := fun vs H Q _ => ∃ (L : ChL) (S : ChSt) (i : Nat) (w : Let) (r : List Let), vs = [.ref L.root, .int i] ∧ chObj K L ∧ ChAt H L S ∧ i < S.names.length ∧ S.short 1000 ∧
  S.rows[i]? = some (w :: r) ∧ (w.1 = false → S.act[(i + 1) % S.names.length]? = some false → S.known[(i + 1) % S.names.length]? = some none) ∧ ∀ H', ChAt H' L (S.came i w r) → Fr (ChM L) H H' → Q (.str (wd w.1)) H'
theorem ok_come {G : En} (W : Wd G) (q0 : MetG G 2 (cl_Choice G.K) "look_place" (spLook G.K) []) (q1 : MetG G 4 (cl_Choice G.K) "heard" (spHeard G.K) []) (q2 : MetG G 1 (cl_Choice G.K) "put" (spPut G.K) []) : MetG G 5 (cl_Choice G.K) "come" (spCome G.K) [] := by
  refine run_Choice_come W (fun vs H Q E h => ?_) (fun vs H Q E h => ?_)
  · obtain ⟨L, S, i, w, r, rfl, _⟩ := h
    rfl
  · obtain ⟨L, S, i, w, r, rfl, ⟨dx, e⟩, h, hi, sh, hr, hs, k⟩ := h
    have rt := h.rt
    simp only [e] at rt
    have rw_ := h.rw
    obtain ⟨p, hp⟩ := at_lt (xs := L.rws) (i := i) (by rw [h.l4]; exact hi)
    obtain ⟨ts, h1, h2⟩ := h.row i p _ hp hr
    cases ts with
    | nil => exact h2.elim
    | cons t ts =>
    obtain ⟨ht, h2⟩ := h2
    unfold t_Choice_come
    walk_at "st"
    refine ⟨L, S, i, rfl, ⟨dx, e⟩, h, hi, ?_⟩
    walk_at "st"
    rename_i z hz
    have fz : Fr F0 H (upd H z (.lst [])) := .new hz
    refine x_eqL encLet (lst_lets (ws := w :: r) (fz.at0 h1) ⟨fz.tup _ _ ht, h2.fr fz⟩) (lst_nil encLet upd_same) ?_
    refine x_isB (x_df (by simp) ?_)
    have hA := h.fr0 fz
    have g1 := fz.at0 h1
    have gt := fz.tup _ _ ht
    have gl := h2.fr fz
    have fA : Fr (ChM L) H (upd H z (.lst [])) := fz.any
    generalize upd H z (.lst []) = H1 at *
    have rt1 := hA.rt
    simp only [e] at rt1
    have rw1 := hA.rw
    walk_at "st"
    refine x_pop0 g1 ?_
    have hB := hA.setRow hp gl
    have fB := fA.then_put (o := .lst (ts.map V.ref)) g1 trivial (.row hp)
    have gt2 := (Fr.put (F := fun _ => True) (o := .lst (ts.map V.ref)) g1 trivial trivial).tup _ _ gt
    generalize upd H1 p (.lst (ts.map V.ref)) = H2 at *
    have rt2 := hB.rt
    simp only [e] at rt2
    have nm2 := hB.nm
    have kn2 := hB.kn
    walk_at "st"
    refine x_mod (by rw [List.length_map]; show (0 : Int) < (S.names.length : Int); omega) ?_
    rw [List.length_map, show ((i : Int) + 1) % (({ S with rows := S.rows.set i r } : ChSt).names.length : Int) = (((i + 1) % S.names.length : Nat) : Int) from rfl]
    have ha := nxt_lt hi
    have sh2 := ChSt.short_set sh (i := i) (r := r) (by have := sh i _ hr; simp at this; omega)
    unfold ChSt.came at k
    revert k
    generalize ea : (i + 1) % S.names.length = a at *
    intro k
    obtain ⟨b, x⟩ := w
    cases b with
    | false =>
      walk_at "st"
      refine ⟨L, _, a, x, rfl, ⟨dx, e⟩, hB, ha, sh2, hs rfl, fun H' h3 f3 => ?_⟩
      walk_at "st"
      exact k H' h3 (fB.trans f3)
    | true =>
      obtain ⟨o, ho⟩ := at_lt (xs := S.known) (i := a) (by rw [h.l2]; exact ha)
      unfold ChSt.cameAt at k
      dsimp only at k
      rw [getD_at ho, if_pos rfl] at k
      walk_at "st"
      refine x_df (show ¬ wd true = "name" by decide) ?_
      walk_at "st"
      cases o with
      | some m =>
        refine x_df (fun z => nomatch (show V.int m = V.non from z)) ?_
        walk_at "st"
        exact k H2 (by simpa using hB) fB
      | none =>
        walk_at "st"
        refine x_setL kn2 rfl (by rw [List.length_map]; show a < S.known.length; exact lt_at ho) ?_
        rw [show V.int x = optV (some x) from rfl, map_set optV]
        have hC := hB.setKn a (some x)
        have fC := fB.then_put (o := .lst ((S.known.set a (some x)).map optV)) kn2 trivial (.lk L)
        have rt3 := hC.rt
        simp only [e] at rt3
        walk_at "st"
        refine ⟨L, _, a, true, x, rfl, ⟨dx, e⟩, hC, ha, sh2, fun H' h3 f3 => ?_⟩
        walk_at "st"
        exact k H' (by simpa using h3) (fC.trans f3)
def spTold (K : PySem.W.Frag) : Sp := fun vs H Q _ => ∃ (L : ChL) (S : ChSt) (i : Nat) (o : Option Int), vs = [.ref L.root, .int i] ∧ chObj K L ∧ ChAt H L S ∧ S.known[i]? = some o ∧ Q (optV o) H
theorem ok_told {G : En} (W : Wd G) (q0 : MetG G 2 (cl_Choice G.K) "look_place" (spLook G.K) []) : MetG G 3 (cl_Choice G.K) "told" (spTold G.K) [] := by
  refine run_Choice_told W (fun vs H Q E h => ?_) (fun vs H Q E h => ?_)
  · obtain ⟨L, S, i, o, rfl, _⟩ := h
    rfl
  · obtain ⟨L, S, i, o, rfl, ⟨dx, e⟩, h, ho, k⟩ := h
    have rt := h.rt
    simp only [e] at rt
    have kn := h.kn
    unfold t_Choice_told
    walk_at "st"
    refine ⟨L, S, i, rfl, ⟨dx, e⟩, h, by have := lt_at ho; rw [h.l2] at this; exact this, ?_⟩
    walk_at "st"
    exact k
def spLetters (K : PySem.W.Frag) : Sp := fun vs H Q _ => ∃ (L : ChL) (S : ChSt), vs = [.ref L.root] ∧ chObj K L ∧ ChAt H L S ∧ Q (.int S.sent) H
theorem ok_letters {G : En} (W : Wd G) : MetG G 1 (cl_Choice G.K) "letters" (spLetters G.K) [] := by
  refine run_Choice_letters W (fun vs H Q E h => ?_) (fun vs H Q E h => ?_)
  · obtain ⟨L, S, rfl, _⟩ := h
    rfl
  · obtain ⟨L, S, rfl, ⟨dx, e⟩, h, k⟩ := h
    have rt := h.rt
    simp only [e] at rt
    unfold t_Choice_letters
    walk_at "st"
    exact k
def ChSt.ways (S : ChSt) : List Nat := (List.range S.names.length).filter fun i => !decide (S.rows.getD i [] = [])
def natV (i : Nat) : V := .int (i : Int)
def spWays (K : PySem.W.Frag) : Sp := fun vs H Q _ => ∃ (L : ChL) (S : ChSt), vs = [.ref L.root] ∧ chObj K L ∧ ChAt H L S ∧ S.names.length ≤ 1000 ∧ ∀ D H', H D = none → Fr F0 H H' → H' D = some (.lst (S.ways.map natV)) → Q (.ref D) H'
theorem ok_ways {G : En} (W : Wd G) : MetG G 1 (cl_Choice G.K) "ways" (spWays G.K) [] := by
  refine run_Choice_ways W (fun vs H Q E h => ?_) (fun vs H Q E h => ?_)
  · obtain ⟨L, S, rfl, _⟩ := h
    rfl
  · obtain ⟨L, S, rfl, ⟨dx, e⟩, h, hn, k⟩ := h
    have rt := h.rt
    simp only [e] at rt
    have rw_ := h.rw
    unfold t_Choice_ways
    walk_at "st"
    rw [List.length_map, h.l4]
    refine x_rng1g (by omega) ?_
    rw [Int.toNat_natCast]
    refine lc_rngP (fun i => !decide (S.rows.getD i [] = [])) natV (by omega) (fun i H1 Kv Kn hi f k1 k2 => ?_) (fun D H' hD f e' => k D H' hD f e')
    obtain ⟨p, r, ts, hp, hr, h1, h2⟩ := h.rowF hi
    have hA := h.fr0 f
    have rt1 := hA.rt
    simp only [e] at rt1
    have rw1 := hA.rw
    have g1 := f.at0 h1
    have g2 := h2.fr f
    refine ⟨rfl, ?_⟩
    walk_at "st"
    rename_i z hz
    have fz : Fr F0 H1 (upd H1 z (.lst [])) := .new hz
    refine x_neL encLet (lst_lets (ws := r) (fz.at0 g1) (g2.fr fz)) (lst_nil encLet upd_same) ?_
    rw [getD_at hr] at k1 k2
    refine x_isB (x_nd2 (fun c => ?_) (fun c => ?_))
    · walk_at "st"
      exact k1 (by simpa using c) _ fz
    · exact k2 (by simpa using c) _ fz
/-! ### a new ring -/
def chNew (ns : List Int) : ChSt := ⟨ns, List.replicate ns.length false, List.replicate ns.length none, List.replicate ns.length [], 0⟩
theorem newRows {H1 H : Hp} {Dd : Addr} {ps : List Addr} (h : NewL H1 Dd ps H) (n : Nat) : ∀ (i : Nat) p r, ps[i]? = some p → (List.replicate n ([] : List Let))[i]? = some r → ∃ ts, H p = some (.lst (ts.map V.ref)) ∧ Lets H ts r := fun i p r hp hr => by
  have : r = [] := by
    rw [List.getElem?_replicate] at hr
    split at hr
    · cases hr; rfl
    · cases hr
  subst this
  exact ⟨[], (h.nw p (List.mem_of_getElem? hp)).2, trivial⟩
def spInit (K : PySem.W.Frag) : Sp := fun vs H Q _ => ∃ (x l dx : Addr) (ns : List Int), vs = [.ref x, .ref l] ∧ H x = some (.ins (cl_Choice K) dx []) ∧ H l = some (.lst (ns.map V.int)) ∧ 2 ≤ ns.length ∧ ns.length ≤ 10 ∧
  (∀ n ∈ ns, 0 ≤ n ∧ n ≤ 999) ∧ ns.Nodup ∧ ∀ L H', L.root = x → chObj K L → ChAt H' L (chNew ns) → (∀ b, ChM L b → b = x ∨ H b = none) → Fr (fun b => b = x) H H' → Q .non H'
theorem ok_init {G : En} (W : Wd G) (q1 : CalG G 1 "is_whole" spIsWhole []) : MakG G 2 "Choice" (cl_Choice G.K) (spInit G.K) [] := by
  refine run_Choice_init W (fun vs H Q E h => ?_) (fun vs H Q E h => ?_)
  · obtain ⟨x, l, dx, ns, rfl, _⟩ := h
    rfl
  · obtain ⟨x, l, dx, ns, rfl, hx, hl, n2, n10, hb, nd, k⟩ := h
    unfold t_Choice_init
    walk_at "st"
    rw [List.length_map]
    refine x_dt (by omega) ?_
    walk_at "st"
    rw [show decide ((ns.length : Int) ≤ 10) = true by simp; omega]
    walk_at "st"
    refine lc_lstP (ns.map V.int) (fun _ => true) (fun i => .bl (decide (0 ≤ ns.getD i 0 ∧ ns.getD i 0 ≤ 999))) (by rw [List.length_map]; omega) hl (fun i v H1 Kv Kn hi f k1 k2 => ?_) (fun D H1 hD f e => ?_)
    · rw [List.getElem?_map] at hi
      obtain ⟨n, hn, rfl⟩ := Option.map_eq_some_iff.mp hi
      refine ⟨rfl, lc_yes (x_t ?_)⟩
      walk_at "st"
      refine ⟨_, _, _, rfl, ?_⟩
      have := k1 rfl H1 (.refl H1)
      simp only [getD_at hn] at this
      exact this
    rw [List.length_map] at e
    walk_at "st"
    refine x_all (bs := List.replicate ns.length true) ?_ ?_
    · rw [e]
      congr 2
      refine List.ext_getElem? fun i => ?_
      rw [filt_all]
      simp only [List.getElem?_map, List.getElem?_replicate]
      by_cases c : i < ns.length
      · have hm := hb (ns.getD i 0) (by rw [List.getD_eq_getElem?_getD, List.getElem?_eq_getElem c]; exact List.getElem_mem c)
        have hm2 : 0 ≤ ns[i] ∧ ns[i] ≤ 999 := by simpa [c] using hm
        simp [c, hm2]
      · simp [c]
    have : (List.replicate ns.length true).all id = true := by simp
    rw [this]
    have hl1 := f.at0 hl
    have hx1 := f.at0 hx
    walk_at "st"
    refine x_lenSetg hl1 (by omega) ?_
    walk_at "st"
    rw [List.length_map, dcount_of_nodup nd]
    refine x_df (by omega) ?_
    walk_at "st"
    have lx : l ≠ x := fun z => by rw [z, hx] at hl; cases hl
    have f1 : Fr (fun b => b = x) H H1 := f.any
    refine x_listL (SqL.of hl1) fun ln hln => ?_
    have e1 := f.back0 hln
    walk_at "st"
    rename_i p1 hp1
    rw [List.length_map]
    refine x_rep1 upd_same (by omega) fun la hla => ?_
    walk_at "st"
    rename_i p2 hp2
    rw [List.length_map]
    refine x_rep1 upd_same (by omega) fun lk hlk => ?_
    walk_at "st"
    refine lc_lstN (xs := ns.map V.int) ?_ (by rw [List.length_map]; omega) (fun _ => rfl) fun lr ps H2 hlr hps hN => ?_
    · walk_at "hp"
    obtain ⟨fr, nd2, nw, at_⟩ := hN
    have hx2 : H2 x = some (.ins (cl_Choice G.K) dx [("names", .ref ln), ("active", .ref la), ("known", .ref lk)]) := fr.at0 upd_same
    have hn2 : H2 ln = some (.lst (ns.map V.int)) := fr.at0 (by walk_at "hp")
    have ha2 : H2 la = some (.lst (List.replicate ns.length (.bl false))) := fr.at0 (by walk_at "hp")
    have hk2 : H2 lk = some (.lst (List.replicate ns.length .non)) := fr.at0 (by walk_at "hp")
    have nw1 : ∀ p ∈ ps, p ≠ x ∧ p ≠ ln ∧ p ≠ la ∧ p ≠ lk ∧ H1 p = none := fun p hp => by
      have := (nw p hp).1
      simp only [upd_none] at this
      exact ⟨this.1, this.2.2.2.2.2.2.2.1, this.2.2.2.2.1, this.2.1, this.2.2.2.2.2.2.2.2⟩
    simp only [upd_none] at hp1 hla hp2 hlk hlr
    have e2 := f.back0 hp1.2.2
    have e3 := f.back0 hla.2.2.2
    have e4 := f.back0 hp2.2.2.2.2.2
    have e5 := f.back0 hlk.2.2.2.2.2.2
    have e6 := f.back0 hlr.2.2.2.2.2.2.2.2
    have fB : Fr (fun b => b = x) H H2 := by
      refine Fr.trans ?_ fr.any
      walk_at "fr"
    walk_at "st"
    have xln : x ≠ ln := ne_of_none hx1 hln
    refine k ⟨x, fun s => .ins (cl_Choice G.K) dx [("names", .ref ln), ("active", .ref la), ("known", .ref lk), ("rows", .ref lr), ("sent", .int s)], ln, la, lk, lr, ps, fun _ => trivial⟩ _ rfl ⟨dx, rfl⟩ ?_ ?_ ?_
    · have nd3 := List.nodup_cons.mp nd2
      refine ⟨upd_same, upd_at (upd_at hn2 xln.symm) xln.symm, ?_, ?_, upd_at (upd_at at_ hlr.1) hlr.1, ?_, by simp [chNew], by simp [chNew], by simp [chNew], by simpa [chNew] using hps, ?_⟩
      · exact upd_at (upd_at (by rw [ha2]; simp [chNew]) hla.2.1) hla.2.1
      · exact upd_at (upd_at (by rw [hk2]; simp [chNew, optV]) hlk.2.1) hlk.2.1
      · intro i p r hp hr
        obtain ⟨ts, g1, g2⟩ := newRows (ps := ps) (Dd := lr) (H := H2) ⟨fr, nd2, nw, at_⟩ ns.length i p r hp hr
        have := (nw1 p (List.mem_of_getElem? hp)).1
        have q := (Fr.put (F := fun _ => True) (o := .ins (cl_Choice G.K) dx (putF "rows" (.ref lr) [("names", .ref ln), ("active", .ref la), ("known", .ref lk)])) hx2 trivial trivial)
        exact ⟨ts, upd_at (upd_at g1 this) this, (g2.fr q).put upd_same (by exact trivial)⟩
      · simp only [ChL.all, List.nodup_cons, List.mem_cons, not_or]
        refine ⟨⟨xln, hla.2.1.symm, hlk.2.1.symm, hlr.1.symm, fun z => (nw1 x z).1 rfl⟩, ⟨hla.2.2.1.symm, hlk.2.2.2.2.2.1.symm, hlr.2.2.2.2.2.2.2.1.symm, fun z => (nw1 ln z).2.1 rfl⟩, ⟨hlk.2.2.1.symm, hlr.2.2.2.2.1.symm, fun z => (nw1 la z).2.2.1 rfl⟩, ⟨hlr.2.1.symm, fun z => (nw1 lk z).2.2.2.1 rfl⟩, nd3⟩
    · intro b hb
      simp only [ChM, ChL.all, List.mem_cons] at hb
      rcases hb with rfl | rfl | rfl | rfl | rfl | hb
      · exact .inl rfl
      · exact .inr e1
      · exact .inr e3
      · exact .inr e5
      · exact .inr e6
      · exact .inr (f.back0 (nw1 b hb).2.2.2.2)
    · walk_at "fr"
/-! ### the law's own ring -/
def spBegun : Sp := fun vs H Q _ => ∃ (L : ChL) (S : ChSt) (i : Nat), vs = [.ref L.root, .int i] ∧ chOwn L ∧ ChAt H L S ∧ i < S.names.length ∧ S.short 1000 ∧ ∀ v H', ChAt H' L (S.begun i) → Fr (ChM L) H H' → Q v H'
theorem own_push {L : ChL} {S : ChSt} (e : chOwn L) : L.body S.sent = .lst [.ref L.ln, .ref L.la, .ref L.lk, .ref L.lr, .int S.sent] := by rw [e]
theorem ok_begun {G : En} (W : Wd G) : CalG G 1 "_law_begun" spBegun [] := by
  refine run__law_begun W (fun vs H Q E h => ?_) (fun vs H Q E h => ?_)
  · obtain ⟨L, S, i, rfl, _⟩ := h
    rfl
  · obtain ⟨L, S, i, rfl, e, h, hi, sh, k⟩ := h
    unfold chOwn at e
    have rt := h.rt
    simp only [e] at rt
    have ac := h.ac
    unfold t__law_begun
    walk_at "st"
    refine x_setL ac rfl (by rw [List.length_map, h.l1]; exact hi) ?_
    rw [map_set V.bl]
    have hA := h.setAct i true
    have fA : Fr (ChM L) H _ := .put (o := .lst ((S.act.set i true).map V.bl)) ac trivial (.la L)
    generalize upd H L.la (.lst ((S.act.set i true).map V.bl)) = H1 at *
    obtain ⟨p, r, ts, hp, hr, h1, h2⟩ := hA.rowF hi
    have rt1 := hA.rt
    simp only [e] at rt1
    have nm1 := hA.nm
    have rw1 := hA.rw
    obtain ⟨m, hm⟩ := at_lt (xs := S.names) hi
    walk_at "st"
    rename_i t ht
    refine x_app (upd_new h1 ht) (by have := sh i r hr; rw [List.length_map, h2.len]; omega) ?_
    have hB := hA.fr0 (.new (o := .tup [.str (wd false), .int m]) ht)
    have rt2 := hB.rt
    simp only [e] at rt2
    have n1 := hB.ne.a5 p (List.mem_of_getElem? hp)
    have hC := hB.push (w := (false, m)) hp hr (h2.fr (Fr.new (F := F0) ht)) upd_same
    walk_at "st"
    refine x_setL (i := 4) (upd_at rt2 n1.symm) rfl (by simp) ?_
    simp only [e] at hC
    unfold ChSt.begun at k
    rw [getD_at hm] at k
    exact k _ _ hC (((fA.then_new ht).then_put (upd_new h1 ht) trivial (.row hp)).then_put (upd_at rt2 n1.symm) trivial (.rt L))
def spArrive : Sp := fun vs H Q _ => ∃ (L : ChL) (S : ChSt) (i : Nat) (w : Let) (r : List Let), vs = [.ref L.root, .int i] ∧ chOwn L ∧ ChAt H L S ∧ i < S.names.length ∧ S.short 1000 ∧ S.rows[i]? = some (w :: r) ∧
  ∀ H', ChAt H' L (S.came i w r) → Fr (ChM L) H H' → Q (.str (wd w.1)) H'
/-- a letter at a row of the law's own list, and one more sent -/
theorem own_put {G : En} {L : ChL} {S : ChSt} {H : Hp} {i : Nat} {σ : Stt} {b : Bool} {x : Int} {D : Ends} {tw : TE} (e : chOwn L) (h : ChAt H L S) (hi : i < S.names.length) (sh : S.short 1000)
    (s0 : σ[0]? = some (some (.ref L.root))) (s3 : σ[3]? = some (some (.int x))) (s4 : σ[4]? = some (some (.int i))) (hw : ∀ H Q, Q (.str (wd b)) H → tw σ H Q)
    (k : ∀ H', ChAt H' L (S.put i (b, x)) → Fr (ChM L) H H' → D.nx σ H') :
    tSeq (tDrop (tBMQ G.K "list" rAppend (tOp (rIxL G.K) (tOp (rIxL G.K) (tVar 0) (tC (.int 3))) (tVar 4)) (tCons (tTupQ (tCons tw (tCons (tVar 3) tNil))) tNil)))
    (tAsg (tOp (rI0 fun i j => .int (i + j)) (tOp (rIxL G.K) (tVar 0) (tC (.int 4))) (tC (.int 1))) (gSub (tVar 0) (tC (.int 4)) rSetL)) D σ H := by
  unfold chOwn at e
  have rt := h.rt
  simp only [e] at rt
  have rw_ := h.rw
  obtain ⟨p, r, ts, hp, hr, h1, h2⟩ := h.rowF hi
  refine x_seq (x_drop (x_bm (x_op (x_op (x_var s0 (x_c (x_ixL rt (i := 3) rfl rfl (x_var s4 (x_ixL rw_ rfl (map_ix hp) ?_)))))))))
  refine x_bmL h1 (x_cons (x_tup (x_cons (hw _ _ (x_cons (x_var s3 (x_nil (x_new (Nat.le_of_ble_eq_true rfl) fun t ht => ?_))))))))
  refine x_nil (x_app (upd_new h1 ht) (by have := sh i r hr; rw [List.length_map, h2.len]; omega) ?_)
  have hB := h.fr0 (.new (o := .tup [.str (wd b), .int x]) ht)
  have rt2 := hB.rt
  simp only [e] at rt2
  have n1 := hB.ne.a5 p (List.mem_of_getElem? hp)
  have hC := hB.push (w := (b, x)) hp hr (h2.fr (Fr.new (F := F0) ht)) upd_same
  refine x_asg (x_op (x_op (x_var s0 (x_c (x_ixL (upd_at rt2 n1.symm) (i := 4) rfl rfl (x_c (x_I0 (x_gsub (x_var s0 (x_c ?_)))))))))) 
  refine x_setL (i := 4) (upd_at rt2 n1.symm) rfl (by simp) ?_
  simp only [e] at hC
  exact k _ hC ((Fr.new ht).trans ((Fr.put (upd_new h1 ht) trivial (.row hp)).then_put (upd_at rt2 n1.symm) trivial (.rt L)))
theorem ok_arrive {G : En} (W : Wd G) (q1 : CalG G 1 "_law_begun" spBegun []) : CalG G 2 "_law_arrive" spArrive [] := by
  refine run__law_arrive W (fun vs H Q E h => ?_) (fun vs H Q E h => ?_)
  · obtain ⟨L, S, i, w, r, rfl, _⟩ := h
    rfl
  · obtain ⟨L, S, i, w, r, rfl, e, h, hi, sh, hr, k⟩ := h
    have e0 := e
    unfold chOwn at e
    have rt := h.rt
    simp only [e] at rt
    have rw_ := h.rw
    obtain ⟨p, hp⟩ := at_lt (xs := L.rws) (i := i) (by rw [h.l4]; exact hi)
    obtain ⟨ts, h1, h2⟩ := h.row i p _ hp hr
    cases ts with
    | nil => exact h2.elim
    | cons t ts =>
    obtain ⟨ht, h2⟩ := h2
    unfold t__law_arrive
    walk_at "st"
    refine x_pop0 h1 ?_
    have hB := h.setRow hp h2
    have fB : Fr (ChM L) H _ := .put (o := .lst (ts.map V.ref)) h1 trivial (.row hp)
    have gt2 := fB.tup _ _ ht
    generalize upd H p (.lst (ts.map V.ref)) = H2 at *
    have rt2 := hB.rt
    simp only [e] at rt2
    have nm2 := hB.nm
    have ac2 := hB.ac
    have kn2 := hB.kn
    walk_at "st"
    refine x_mod (by rw [List.length_map]; show (0 : Int) < (S.names.length : Int); omega) ?_
    rw [List.length_map, show ((i : Int) + 1) % (({ S with rows := S.rows.set i r } : ChSt).names.length : Int) = (((i + 1) % S.names.length : Nat) : Int) from rfl]
    have ha := nxt_lt hi
    have sh2 := ChSt.short_set sh (i := i) (r := r) (by have := sh i _ hr; simp at this; omega)
    unfold ChSt.came at k
    revert k
    generalize ea : (i + 1) % S.names.length = a at *
    intro k
    obtain ⟨b, x⟩ := w
    cases b with
    | true =>
      obtain ⟨o, ho⟩ := at_lt (xs := S.known) (i := a) (by rw [h.l2]; exact ha)
      unfold ChSt.cameAt at k
      dsimp only at k
      rw [getD_at ho, if_pos rfl] at k
      walk_at "st"
      cases o with
      | some m =>
        refine x_df (fun z => nomatch (show V.int m = V.non from z)) ?_
        walk_at "st"
        exact k H2 (by simpa using hB) fB
      | none =>
        walk_at "st"
        refine x_setL kn2 rfl (by rw [List.length_map]; show a < S.known.length; exact lt_at ho) ?_
        rw [show V.int x = optV (some x) from rfl, map_set optV]
        have hC := hB.setKn a (some x)
        have fC := fB.then_put (o := .lst ((S.known.set a (some x)).map optV)) kn2 trivial (.lk L)
        refine own_put e0 hC ha sh2 rfl rfl rfl (b := true) (fun H Q q => x_var (by rfl) q) fun H' h3 f3 => ?_
        walk_at "st"
        exact k H' (by simpa using h3) (fC.trans f3)
    | false =>
      unfold ChSt.cameAt at k
      dsimp only at k
      rw [if_neg (by simp)] at k
      obtain ⟨m, hm⟩ := at_lt (xs := S.names) ha
      obtain ⟨c, hc⟩ := at_lt (xs := S.act) (i := a) (by rw [h.l1]; exact ha)
      unfold ChSt.heard at k
      dsimp only at k
      rw [getD_at hm, getD_at hc] at k
      walk_at "st"
      refine x_df (show ¬ wd false = "chosen" by decide) ?_
      walk_at "st"
      refine x_d2 (fun c1 => ?_) (fun c1 => ?_)
      · rw [if_pos c1] at k
        walk_at "st"
        refine x_setL kn2 rfl (by rw [List.length_map]; show a < S.known.length; rw [h.l2]; exact ha) ?_
        rw [show V.int x = optV (some x) from rfl, map_set optV]
        have hC := hB.setKn a (some x)
        have fC := fB.then_put (o := .lst ((S.known.set a (some x)).map optV)) kn2 trivial (.lk L)
        refine own_put e0 hC ha sh2 rfl rfl rfl (b := true) (fun H Q q => x_c q) fun H' h3 f3 => ?_
        walk_at "st"
        exact k H' h3 (fC.trans f3)
      · rw [if_neg c1] at k
        walk_at "st"
        refine x_d2 (fun c2 => ?_) (fun c2 => ?_)
        · rw [if_pos c2] at k
          walk_at "st"
          refine x_setL ac2 rfl (by rw [List.length_map]; show a < S.act.length; rw [h.l1]; exact ha) ?_
          rw [map_set V.bl]
          have hC := hB.setAct a true
          have fC := fB.then_put (o := .lst ((S.act.set a true).map V.bl)) ac2 trivial (.la L)
          refine own_put e0 hC ha sh2 rfl rfl rfl (b := false) (fun H Q q => x_var (by rfl) q) fun H' h3 f3 => ?_
          walk_at "st"
          exact k H' h3 (fC.trans f3)
        · rw [if_neg c2] at k
          walk_at "st"
          refine x_nb2 (fun c3 => ?_) (fun c3 => ?_)
          · subst c3
            walk_at "st"
            refine ⟨L, _, a, rfl, e0, hB, ha, sh2, fun v H' h3 f3 => ?_⟩
            walk_at "st"
            exact k H' (by simpa using h3) (fB.trans f3)
          · subst c3
            walk_at "st"
            exact k H2 (by simpa using hB) fB
/-! ### what is kept of a ring -/
def AllA (S : ChSt) : Prop := ∀ j, j < S.names.length → S.act[j]? = some true
def ChPath (S : ChSt) (i : Nat) (x : Int) : Prop := ∃ m d, m < S.names.length ∧ d < S.names.length ∧ (m + d) % S.names.length = i ∧ S.names[m]? = some x ∧ ∀ e, e ≤ d → S.act[(m + e) % S.names.length]? = some true
structure ChI (S : ChSt) (k : Nat) : Prop where
  l1 : S.act.length = S.names.length
  l2 : S.known.length = S.names.length
  l3 : S.rows.length = S.names.length
  nd : S.names.Nodup
  n2 : 2 ≤ S.names.length
  n10 : S.names.length ≤ 10
  sh : S.short k
  aK : ∀ (i : Nat) v, S.known[i]? = some (some v) → AllA S
  aR : ∀ (i : Nat) r x, S.rows[i]? = some r → (true, x) ∈ r → AllA S
  pa : ∀ (i : Nat) r x, S.rows[i]? = some r → (false, x) ∈ r → ChPath S i x
theorem ChI.put {S : ChSt} {k i : Nat} {w : Let} (h : ChI S k) (hi : i < S.names.length) (h1 : w.1 = true → AllA S) (h2 : w.1 = false → ChPath S i w.2) : ChI (S.put i w) (k + 1) := by
  have P : ∀ (j : Nat) r (y : Let), (S.put i w).rows[j]? = some r → y ∈ r → (∃ r0, S.rows[j]? = some r0 ∧ y ∈ r0) ∨ (j = i ∧ y = w) := fun j r y hr hy => by
    unfold ChSt.put at hr
    dsimp only at hr
    by_cases e : i = j
    · subst e
      obtain ⟨r0, hr0⟩ := at_lt (xs := S.rows) (i := i) (by rw [h.l3]; exact hi)
      rw [List.getElem?_set_self (by rw [h.l3]; exact hi), getD_at hr0] at hr
      cases hr
      rcases List.mem_append.mp hy with z | z
      · exact .inl ⟨r0, hr0, z⟩
      · exact .inr ⟨rfl, List.mem_singleton.mp z⟩
    · rw [List.getElem?_set_ne e] at hr
      exact .inl ⟨r, hr, hy⟩
  refine ⟨h.l1, h.l2, by simp [ChSt.put, h.l3], h.nd, h.n2, h.n10, fun j r hr => ?_, h.aK, fun j r x hr hx => ?_, fun j r x hr hx => ?_⟩
  · unfold ChSt.put at hr
    dsimp only at hr
    by_cases e : i = j
    · subst e
      obtain ⟨r0, hr0⟩ := at_lt (xs := S.rows) (i := i) (by rw [h.l3]; exact hi)
      rw [List.getElem?_set_self (by rw [h.l3]; exact hi), getD_at hr0] at hr
      cases hr
      have := h.sh i r0 hr0
      simp only [List.length_append, List.length_singleton]; omega
    · rw [List.getElem?_set_ne e] at hr
      exact Nat.le_succ_of_le (h.sh j r hr)
  · rcases P j r _ hr hx with ⟨r0, g1, g2⟩ | ⟨_, e⟩
    · exact h.aR j r0 x g1 g2
    · exact h1 (by rw [← e])
  · rcases P j r _ hr hx with ⟨r0, g1, g2⟩ | ⟨ej, e⟩
    · exact h.pa j r0 x g1 g2
    · have := h2 (by rw [← e])
      rw [← e] at this
      rw [ej]; exact this
theorem act_set {xs : List Bool} {i j : Nat} (h : xs[j]? = some true) : (xs.set i true)[j]? = some true := by
  by_cases e : i = j
  · subst e; rw [List.getElem?_set_self (lt_at h)]
  · rw [List.getElem?_set_ne e]; exact h
theorem AllA.set {S : ChSt} {i : Nat} (h : AllA S) : AllA { S with act := S.act.set i true } := fun j hj => act_set (h j hj)
theorem ChPath.set {S : ChSt} {i j : Nat} {x : Int} (h : ChPath S j x) : ChPath { S with act := S.act.set i true } j x := by
  obtain ⟨m, d, g1, g2, g3, g4, g5⟩ := h
  exact ⟨m, d, g1, g2, g3, g4, fun e he => act_set (g5 e he)⟩
theorem ChI.setAct {S : ChSt} {k : Nat} (h : ChI S k) (i : Nat) : ChI { S with act := S.act.set i true } k :=
  ⟨by simpa using h.l1, h.l2, h.l3, h.nd, h.n2, h.n10, h.sh, fun i v g => (h.aK i v g).set, fun i r x g1 g2 => (h.aR i r x g1 g2).set, fun i r x g1 g2 => (h.pa i r x g1 g2).set⟩
theorem ChI.setKn {S : ChSt} {k : Nat} (h : ChI S k) (a : AllA S) (i : Nat) (v : Option Int) : ChI { S with known := S.known.set i v } k :=
  ⟨h.l1, by simpa using h.l2, h.l3, h.nd, h.n2, h.n10, h.sh, fun _ _ _ => a, fun _ _ _ _ _ => a, h.pa⟩
theorem ChI.pop {S : ChSt} {k i : Nat} {w : Let} {r : List Let} (h : ChI S k) (hr : S.rows[i]? = some (w :: r)) : ChI { S with rows := S.rows.set i r } k := by
  have P : ∀ (j : Nat) r1, (S.rows.set i r)[j]? = some r1 → ∃ r0, S.rows[j]? = some r0 ∧ (∀ y ∈ r1, y ∈ r0) ∧ r1.length ≤ r0.length := fun j r1 h1 => by
    by_cases e : i = j
    · subst e
      rw [List.getElem?_set_self (lt_at hr)] at h1
      cases h1
      exact ⟨_, hr, fun y hy => List.mem_cons_of_mem _ hy, by simp⟩
    · rw [List.getElem?_set_ne e] at h1
      exact ⟨r1, h1, fun y hy => hy, Nat.le_refl _⟩
  exact ⟨h.l1, h.l2, by simpa using h.l3, h.nd, h.n2, h.n10, fun j r1 h1 => by
      obtain ⟨r0, g1, g2, g3⟩ := P j r1 h1
      exact Nat.le_trans g3 (h.sh j r0 g1), h.aK, fun j r1 x h1 hx => by
      obtain ⟨r0, g1, g2, g3⟩ := P j r1 h1
      exact h.aR j r0 x g1 (g2 _ hx), fun j r1 x h1 hx => by
      obtain ⟨r0, g1, g2, g3⟩ := P j r1 h1
      exact h.pa j r0 x g1 (g2 _ hx)⟩
theorem ChI.mono {S : ChSt} {k l : Nat} (h : ChI S k) (hl : k ≤ l) : ChI S l := ⟨h.l1, h.l2, h.l3, h.nd, h.n2, h.n10, fun i r hr => Nat.le_trans (h.sh i r hr) hl, h.aK, h.aR, h.pa⟩
theorem ChI.begun {S : ChSt} {k i : Nat} (h : ChI S k) (hi : i < S.names.length) : ChI (S.begun i) (k + 1) := by
  obtain ⟨m, hm⟩ := at_lt hi
  unfold ChSt.begun
  rw [getD_at hm]
  refine (h.setAct i).put hi (fun z => nomatch z) fun _ => ⟨i, 0, hi, by have := h.n2; show 0 < S.names.length; omega, Nat.mod_eq_of_lt hi, hm, fun e he => ?_⟩
  have : e = 0 := by omega
  subst this
  show (S.act.set i true)[(i + 0) % S.names.length]? = some true
  rw [Nat.add_zero, Nat.mod_eq_of_lt hi, List.getElem?_set_self (by rw [h.l1]; exact hi)]
theorem mod_wrap {m d n : Nat} (hm : m < n) (hd : d < n) : (m + d) % n = if m + d < n then m + d else m + d - n := by
  split
  · exact Nat.mod_eq_of_lt (by assumption)
  · rw [Nat.mod_eq_sub_mod (by omega), Nat.mod_eq_of_lt (by omega)]
theorem nxt_wrap {i n : Nat} (h : i < n) : (i + 1) % n = if i + 1 < n then i + 1 else 0 := by
  split
  · exact Nat.mod_eq_of_lt (by assumption)
  · have : i + 1 = n := by omega
    rw [this, Nat.mod_self]
/-- a name comes a place further -/
theorem ChPath.next {S : ChSt} {i : Nat} {x : Int} (h : ChPath S i x) (hi : i < S.names.length) : (∃ m d, m < S.names.length ∧ d + 1 < S.names.length ∧ (m + (d + 1)) % S.names.length = (i + 1) % S.names.length ∧ S.names[m]? = some x ∧ ∀ e, e ≤ d → S.act[(m + e) % S.names.length]? = some true) ∨
    (S.names[(i + 1) % S.names.length]? = some x ∧ AllA S) := by
  obtain ⟨m, d, g1, g2, g3, g4, g5⟩ := h
  generalize hn : S.names.length = n at *
  by_cases c : d + 1 < n
  · refine .inl ⟨m, d, g1, c, ?_, g4, g5⟩
    rw [← g3, nxt_wrap (by omega), mod_wrap g1 c]
    rw [mod_wrap g1 g2]
    split <;> split <;> (try split) <;> omega
  · refine .inr ⟨?_, fun j hj => ?_⟩
    · have : (i + 1) % n = m := by
        rw [← g3, nxt_wrap (by omega), mod_wrap g1 g2]
        split <;> (try split) <;> omega
      rw [this]; exact g4
    · rw [hn] at hj
      have e1 := g5 (if m ≤ j then j - m else j + n - m) (by split <;> omega)
      have e2 : (m + (if m ≤ j then j - m else j + n - m)) % n = j := by
        by_cases q : m ≤ j
        · rw [if_pos q, show m + (j - m) = j by omega, Nat.mod_eq_of_lt ‹_›]
        · rw [if_neg q, show m + (j + n - m) = j + n by omega, Nat.add_mod_right, Nat.mod_eq_of_lt ‹_›]
      rw [e2] at e1
      exact e1
theorem ChI.came {S : ChSt} {k i : Nat} {w : Let} {r : List Let} (h : ChI S k) (hi : i < S.names.length) (hr : S.rows[i]? = some (w :: r)) : ChI (S.came i w r) (k + 1) := by
  have p := h.pop hr
  have a := nxt_lt hi
  unfold ChSt.came ChSt.cameAt
  obtain ⟨b, x⟩ := w
  cases b with
  | true =>
    have al := h.aR i _ x hr (List.mem_cons_self ..)
    rw [if_pos rfl]
    split
    · exact (p.setKn al _ _).put a (fun _ => al) fun z => nomatch z
    · exact p.mono (by omega)
  | false =>
    rw [if_neg (by simp)]
    have pt := h.pa i _ x hr (List.mem_cons_self ..)
    obtain ⟨m, hm⟩ := at_lt (xs := S.names) a
    unfold ChSt.heard
    dsimp only
    rw [getD_at hm]
    split
    · rename_i e
      subst e
      rcases pt.next hi with ⟨m', d, g1, g2, g3, g4, g5⟩ | ⟨_, al⟩
      · have := nodup_ix h.nd g4 hm
        exfalso
        rw [← g3, mod_wrap g1 g2] at this
        split at this <;> omega
      · exact (p.setKn al _ _).put a (fun _ => al) fun z => nomatch z
    · rename_i ne
      split
      · refine (p.setAct _).put a (fun z => nomatch z) fun _ => ?_
        rcases pt.next hi with ⟨m', d, g1, g2, g3, g4, g5⟩ | ⟨e, _⟩
        · refine ⟨m', d + 1, g1, g2, g3, g4, fun e he => ?_⟩
          show (S.act.set ((i + 1) % S.names.length) true)[(m' + e) % S.names.length]? = some true
          by_cases c : e ≤ d
          · exact act_set (g5 e c)
          · rw [show e = d + 1 by omega, g3, List.getElem?_set_self (by rw [h.l1]; exact a)]
        · rw [hm] at e
          exact absurd (Option.some.inj e).symm ne
      · split
        · exact p.mono (by omega)
        · exact p.begun a
theorem rep_at {α : Type} {n i : Nat} {a x : α} (h : (List.replicate n a)[i]? = some x) : x = a := by
  rw [List.getElem?_replicate] at h
  split at h
  · exact (Option.some.inj h).symm
  · cases h
theorem chNew_I {ns : List Int} (nd : ns.Nodup) (n2 : 2 ≤ ns.length) (n10 : ns.length ≤ 10) : ChI (chNew ns) 0 := by
  refine ⟨by simp [chNew], by simp [chNew], by simp [chNew], nd, n2, n10, fun i r hr => ?_, fun i v hv => ?_, fun i r x hr hx => ?_, fun i r x hr hx => ?_⟩
  · rw [rep_at hr]; exact Nat.le_refl 0
  · exact nomatch (rep_at hv)
  · rw [rep_at hr] at hx; cases hx
  · rw [rep_at hr] at hx; cases hx
/-- nobody is told while somebody does not take part -/
theorem ChI.free {S : ChSt} {k i : Nat} (h : ChI S k) (hi : S.act[i]? = some false) : S.known[i]? = some none := by
  have l := lt_at hi
  rw [h.l1] at l
  obtain ⟨o, ho⟩ := at_lt (xs := S.known) (i := i) (by rw [h.l2]; exact l)
  cases o with
  | none => exact ho
  | some v =>
    have := h.aK i v ho i l
    rw [hi] at this; cases this
/-! ### the law -/
def spLaw (K : PySem.W.Frag) : Sp := fun vs H Q _ => ∃ (a : Addr) (ns : List Int), vs = [.ref a] ∧ SqL K H a (ns.map V.int) ∧ ns.length ≤ 63 ∧ ∀ H', Q (.bl true) H'
/-- good names at an address -/
def NmOk (H : Hp) (l : Addr) (m : Nat) (ns : List Int) : Prop := H l = some (.lst (ns.map V.int)) ∧ ns.length = m ∧ ∀ n ∈ ns, 0 ≤ n ∧ n ≤ 999
def Dis (A B : Addr → Prop) : Prop := ∀ b, A b → ¬ B b
/-- what is kept at each turn -/
structure KeepT (H : Hp) (L1 L2 : ChL) (t c : Addr) (m k : Nat) (S : ChSt) : Prop where
  a1 : ChAt H L1 S
  a2 : ChAt H L2 S
  tw : TownAt H t c
  i : ChI S k
  m : S.names.length = m
theorem ChAt.here {H : Hp} {L : ChL} {S : ChSt} (h : ChAt H L S) {b : Addr} (m1 : ChM L b) : ∃ o, H b = some o := by
  simp only [ChM, ChL.all, List.mem_cons] at m1
  rcases m1 with rfl | rfl | rfl | rfl | rfl | m1
  · exact ⟨_, h.rt⟩
  · exact ⟨_, h.nm⟩
  · exact ⟨_, h.ac⟩
  · exact ⟨_, h.kn⟩
  · exact ⟨_, h.rw⟩
  · obtain ⟨i, hi⟩ := List.getElem?_of_mem m1
    obtain ⟨p, r, ts, g1, g2, g3, g4⟩ := h.rowF (i := i) (by rw [← h.l4]; exact lt_at hi)
    rw [hi] at g1; cases g1
    exact ⟨_, g3⟩
theorem ChAt.new {H : Hp} {L : ChL} {S : ChSt} (h : ChAt H L S) {b : Addr} (hb : H b = none) : ¬ ChM L b := fun m1 => by
  obtain ⟨o, ho⟩ := h.here m1
  rw [hb] at ho; cases ho
theorem TownAt.new {H : Hp} {t c b : Addr} (h : TownAt H t c) (hb : H b = none) : b ≠ t ∧ b ≠ c := by
  obtain ⟨_, ns, k, h1, h2, _⟩ := h
  exact ⟨(ne_of_none h1 hb).symm, (ne_of_none h2 hb).symm⟩
theorem came_names (S : ChSt) (i : Nat) (w : Let) (r : List Let) : (S.came i w r).names = S.names := by
  unfold ChSt.came ChSt.cameAt ChSt.heard ChSt.begun ChSt.put
  dsimp only
  split
  · split <;> rfl
  · split
    · rfl
    · split
      · rfl
      · split <;> rfl
theorem own_new {K : PySem.W.Frag} {H : Hp} {Q : VK} {ra rt x l : Addr} {m : Nat} {bs s : Int} {ns : List Int} (hl : H l = some (.lst (ns.map V.int))) (hm : ns.length = m) (m9 : m ≤ 9)
    (k : ∀ L H', chOwn L → ChAt H' L (chNew ns) → Fr F0 H H' → (∀ b, ChM L b → b = l ∨ H b = none) → Q (.ref L.root) H') :
    tLstQ (tCons (tVar 5) (tCons (tOp rRep (tLstQ (tCons (tC (.bl false)) tNil)) (tVar 2)) (tCons (tOp rRep (tLstQ (tCons (tC .non) tNil)) (tVar 2)) (tCons (tLcQ (iListQ K (tVar 5)) (gName 9) tYes (tLstQ tNil) [9]) (tCons (tC (.int 0)) tNil)))))
      [some (.ref ra), some (.ref rt), some (.int m), some (.int bs), some (.int s), some (.ref l), none, some (.ref x), none, none, none, none, none] H Q := by
  walk_at "st"
  rename_i p1 hp1
  refine x_rep1 upd_same (by omega) fun la hla => ?_
  walk_at "st"
  rename_i p2 hp2
  refine x_rep1 upd_same (by omega) fun lk hlk => ?_
  walk_at "st"
  refine lc_lstN (xs := ns.map V.int) ?_ (by rw [List.length_map]; omega) (fun _ => rfl) fun lr ps H2 hlr hps hN => ?_
  · walk_at "hp"
  obtain ⟨fr, nd2, nw, at_⟩ := hN
  have hn2 : H2 l = some (.lst (ns.map V.int)) := fr.at0 (by walk_at "hp")
  have ha2 : H2 la = some (.lst (List.replicate m (.bl false))) := fr.at0 (by walk_at "hp")
  have hk2 : H2 lk = some (.lst (List.replicate m .non)) := fr.at0 (by walk_at "hp")
  have lla : l ≠ la := by walk_at "ne"
  have llk : l ≠ lk := by walk_at "ne"
  have llr : l ≠ lr := by walk_at "ne"
  have nw1 : ∀ p ∈ ps, p ≠ l ∧ p ≠ la ∧ p ≠ lk ∧ H p = none := fun p hp => by
    have e := (nw p hp).1
    refine ⟨Ne.symm (by walk_at "ne"), ?_⟩
    simp only [upd_none] at e
    exact ⟨e.2.2.1, e.1, e.2.2.2.2⟩
  simp only [upd_none] at hp1 hla hp2 hlk hlr
  have e3 := hla.2
  have e5 := hlk.2.2.2
  have e6 := hlr.2.2.2.2
  have e4 := hp2.2.2
  have fB : Fr F0 H H2 := by
    refine Fr.trans ?_ fr
    walk_at "fr"
  walk_at "st"
  rename_i r hr
  have e7 := fB.back0 hr
  refine k ⟨r, fun s => .lst [.ref l, .ref la, .ref lk, .ref lr, .int s], l, la, lk, lr, ps, fun _ => trivial⟩ _ rfl ?_ (fB.then_new hr) ?_
  · have nd3 := List.nodup_cons.mp nd2
    have ne1 : ∀ {b o}, H2 b = some o → b ≠ r := fun hb => ne_of_none hb hr
    refine ⟨upd_same, upd_at hn2 (ne1 hn2), ?_, ?_, upd_at at_ (ne1 at_), ?_, by simp [chNew], by simp [chNew], by simp [chNew], by simpa [chNew] using hps, ?_⟩
    · exact upd_at (by rw [ha2]; simp [chNew, hm]) (ne1 ha2)
    · exact upd_at (by rw [hk2]; simp [chNew, optV, hm]) (ne1 hk2)
    · intro i p r' hp hr'
      obtain ⟨ts, g1, g2⟩ := newRows (ps := ps) (Dd := lr) (H := H2) ⟨fr, nd2, nw, at_⟩ ns.length i p r' hp hr'
      exact ⟨ts, upd_at g1 (ne1 g1), g2.fr (Fr.new (F := F0) hr)⟩
    · simp only [ChL.all, List.nodup_cons, List.mem_cons, not_or]
      exact ⟨⟨(ne1 hn2).symm, (ne1 ha2).symm, (ne1 hk2).symm, (ne1 at_).symm, fun z => ne1 (nw r z).2 rfl⟩, ⟨lla, llk, llr, fun z => (nw1 l z).1 rfl⟩, ⟨hlk.2.1.symm, hlr.2.2.1.symm, fun z => (nw1 la z).2.1 rfl⟩, ⟨hlr.1.symm, fun z => (nw1 lk z).2.2.1 rfl⟩, nd3⟩
  · intro b hb
    simp only [ChM, ChL.all, List.mem_cons] at hb
    rcases hb with rfl | rfl | rfl | rfl | rfl | hb
    · exact .inr e7
    · exact .inl rfl
    · exact .inr e3
    · exact .inr e5
    · exact .inr e6
    · exact .inr (nw1 b hb).2.2.2
theorem ok_law {G : En} (W : Wd G) (c1 : CalG G 1 "_law_town" (spTown G.K) []) (c2 : CalG G 1 "_law_draw" spDraw []) (c3 : CalG G 2 "_law_pick" spPick []) (c4 : CalG G 1 "_law_begun" spBegun []) (c5 : CalG G 2 "_law_arrive" spArrive [])
    (mk : MakG G 2 "Choice" (cl_Choice G.K) (spInit G.K) []) (m1 : MetG G 3 (cl_Choice G.K) "begin" (spBegin G.K) []) (m2 : MetG G 5 (cl_Choice G.K) "come" (spCome G.K) []) (m3 : MetG G 3 (cl_Choice G.K) "told" (spTold G.K) [])
    (m4 : MetG G 1 (cl_Choice G.K) "letters" (spLetters G.K) []) (m5 : MetG G 1 (cl_Choice G.K) "ways" (spWays G.K) []) {fd : FuncData} (F : FnP G.K "law" "law" s_law [] (He.ga G.K "law") fd) : FnG G CX0 6 (He.ga G.K "law") fd ["_law_script"] (spLaw G.K) := by
  refine fnq_law W (fun vs H Q E h => ?_) (fun vs H Q E h => ?_) F
  · obtain ⟨a, ns, rfl, _⟩ := h
    rfl
  · obtain ⟨a, ns, rfl, hS, hl, k⟩ := h
    unfold t_law
    walk_at "st"
    refine ⟨a, ns, rfl, hS, hl, fun t c H1 n1 n2 hT1 f1 => ?_⟩
    walk_at "st"
    refine ⟨t, c, 8, rfl, hT1, by decide, by decide, fun r H2 r0 r1 hT2 f2 => ?_⟩
    walk_at "st"
    obtain ⟨m0, rfl⟩ := Int.eq_ofNat_of_zero_le r0
    rw [show (2 : Int) + (m0 : Int) = ((2 + m0 : Nat) : Int) from rfl]
    have hm2 : 2 ≤ 2 + m0 := by omega
    have hm9 : 2 + m0 ≤ 9 := by omega
    generalize 2 + m0 = m at hm2 hm9 ⊢
    walk_at "st"
    refine ⟨t, c, 1000, rfl, hT2, by decide, by decide, fun bs H3 b0 b1 hT3 f3 => ?_⟩
    walk_at "st"
    rename_i pl hpl
    have hT3' : TownAt (upd H3 pl (.lst [.int 1, .int 7, .int 999, .int 333, .int 501])) t c := hT3.fr0 (.new hpl)
    have pt : pl ≠ t := (ne_of_none hT3.ex.choose_spec.choose_spec.1 hpl).symm
    have pc : pl ≠ c := (ne_of_none hT3.ex.choose_spec.choose_spec.2.1 hpl).symm
    refine ⟨t, c, pl, _, rfl, hT3', upd_same, pt, pc, by simp, by simp, fun i v H4 hi hT4 f4 => ?_⟩
    have hv : ∃ s : Int, v = .int s ∧ 0 ≤ s ∧ s ≤ 999 := by
      rcases i with _ | _ | _ | _ | _ | i
      · exact ⟨1, by simpa using hi.symm, by decide, by decide⟩
      · exact ⟨7, by simpa using hi.symm, by decide, by decide⟩
      · exact ⟨999, by simpa using hi.symm, by decide, by decide⟩
      · exact ⟨333, by simpa using hi.symm, by decide, by decide⟩
      · exact ⟨501, by simpa using hi.symm, by decide, by decide⟩
      · simp at hi
    obtain ⟨s, rfl, s0, s1⟩ := hv
    walk_at "st"
    refine x_rng1g (by omega) ?_
    rw [Int.toNat_natCast]
    refine lc_rngP (fun _ => true) (fun i => .int ((bs + s * (i : Int)) % 1000)) (by omega) (fun i H5 Kv Kn hi f k1 k2 => ?_) (fun l5 H5 hl5 f5 e5 => ?_)
    · refine ⟨rfl, lc_yes (x_t ?_)⟩
      walk_at "st"
      refine x_mulL (by omega) ?_
      walk_at "st"
      exact k1 rfl H5 (.refl H5)
    rw [filt_all] at e5
    walk_at "sq"
    have q0 : ∀ l : Addr, H4 l = none → l ≠ t ∧ l ≠ c := fun l hl => ⟨(ne_of_none hT4.ex.choose_spec.choose_spec.1 hl).symm, (ne_of_none hT4.ex.choose_spec.choose_spec.2.1 hl).symm⟩
    refine x_ifj (fun σ' H' => ∃ l ns, σ' = [some (.ref a), some (.ref t), some (.int m), some (.int bs), some (.int s), some (.ref l), none, none, none, none, none, none, none] ∧ TownAt H' t c ∧ l ≠ t ∧ l ≠ c ∧ NmOk H' l m ns) (fun N hN => ?_) ?_
    · walk_at "st"
      refine x_d2 (fun s3 => ?_) (fun s3 => ?_)
      · walk_at "st"
        refine x_rng1g (by omega) ?_
        rw [Int.toNat_natCast]
        refine lc_rngP (fun _ => true) (fun i => .int (((i : Int) * i * 10) % 999 + i)) (by omega) (fun i H6 Kv Kn hi f k1 k2 => ?_) (fun l6 H6 hl6 f6 e6 => ?_)
        · refine ⟨rfl, lc_yes (x_t ?_)⟩
          walk_at "st"
          refine x_mulL (by omega) ?_
          walk_at "st"
          exact k1 rfl H6 (.refl H6)
        rw [filt_all] at e6
        walk_at "st"
        have q6 := q0 l6 (f5.back0 hl6)
        refine hN _ _ ⟨l6, (List.range m).map fun (i : Nat) => (((i : Int) * i * 10) % 999 + i), rfl, (hT4.fr0 f5).fr0 f6, q6.1, q6.2, by rw [e6, List.map_map]; rfl, by simp, fun n hn => ?_⟩
        obtain ⟨i, hi, rfl⟩ := List.mem_map.mp hn
        have hi := List.mem_range.mp hi
        have : i = 0 ∨ i = 1 ∨ i = 2 ∨ i = 3 ∨ i = 4 ∨ i = 5 ∨ i = 6 ∨ i = 7 ∨ i = 8 := by omega
        rcases this with rfl | rfl | rfl | rfl | rfl | rfl | rfl | rfl | rfl <;> decide
      · walk_at "st"
        have q5 := q0 l5 hl5
        refine hN _ _ ⟨l5, (List.range m).map fun (i : Nat) => ((bs + s * (i : Int)) % 1000), rfl, hT4.fr0 f5, q5.1, q5.2, by rw [e5, List.map_map]; rfl, by simp, fun n hn => ?_⟩
        obtain ⟨i, hi, rfl⟩ := List.mem_map.mp hn
        omega
    rintro σ6 H6 ⟨l6, ns6, rfl, hT6, q6, q6', e6, ln6, bd6⟩
    walk_at "sq"
    refine x_ifj (fun σ' H' => ∃ l ns, σ' = [some (.ref a), some (.ref t), some (.int m), some (.int bs), some (.int s), some (.ref l), none, none, none, none, none, none, none] ∧ TownAt H' t c ∧ l ≠ t ∧ l ≠ c ∧ NmOk H' l m ns ∧ ns.Nodup) (fun N hN => ?_) ?_
    · walk_at "st"
      refine x_lenSetg e6 (by omega) ?_
      walk_at "st"
      refine x_d2 (fun s3 => ?_) (fun s3 => ?_)
      · walk_at "st"
        refine x_lrgg (by omega) fun l7 hl7 => ?_
        rw [Int.toNat_natCast]
        walk_at "st"
        refine hN _ _ ⟨l7, (List.range m).map fun (i : Nat) => (i : Int), rfl, hT6.fr0 (.new hl7), (ne_of_none hT6.ex.choose_spec.choose_spec.1 hl7).symm, (ne_of_none hT6.ex.choose_spec.choose_spec.2.1 hl7).symm, ⟨by rw [List.map_map]; exact upd_same, by simp, fun n hn => ?_⟩, ?_⟩
        · obtain ⟨i, hi, rfl⟩ := List.mem_map.mp hn
          have hi := List.mem_range.mp hi
          omega
        · refine List.pairwise_map.mpr (List.nodup_range.imp fun h z => h (by omega))
      · walk_at "st"
        exact hN _ _ ⟨l6, ns6, rfl, hT6, q6, q6', ⟨e6, ln6, bd6⟩, nodup_of_dcount (by rw [ln6]; exact s3)⟩
    rintro σ7 H7 ⟨l7, ns7, rfl, hT7, q7, q7', ⟨e7, ln7, bd7⟩, nd7⟩
    walk_at "st"
    intro x dx hx hdx dxx
    have l7x : l7 ≠ x := ne_of_none e7 hx
    refine ⟨x, l7, dx, ns7, rfl, upd_same, upd_at (upd_new e7 hdx) l7x, by omega, by omega, bd7, nd7, fun L1 H8 ex o1 a1 nw1 f8 => ⟨rfl, ?_⟩⟩
    subst ex
    have f78 : Fr F0 H7 (upd (upd H7 dx (.own L1.root)) L1.root (.ins (cl_Choice G.K) dx [])) := (Fr.new hdx).then_new (upd_none.mpr ⟨dxx.symm, hx⟩)
    have inH7 : ∀ {b o}, H7 b = some o → ¬ ChM L1 b := fun hb m1 => by
      rcases nw1 _ m1 with z | z
      · rw [z, hx] at hb; cases hb
      · rw [f78.at0 hb] at z; cases z
    have hT8 : TownAt H8 t c := (hT7.fr0 f78).fr f8 (ne_of_none hT7.ex.choose_spec.choose_spec.1 hx) (ne_of_none hT7.ex.choose_spec.choose_spec.2.1 hx)
    have e8 : H8 l7 = some (.lst (ns7.map V.int)) := f8.keep _ _ (f78.at0 e7) l7x
    refine x_gname ?_
    with_reducible refine x_seq ?_
    with_reducible refine x_asg ?_
    refine x_ej (fun v H9 => ∃ L2, v = .ref L2.root ∧ chOwn L2 ∧ ChAt H9 L2 (chNew ns7) ∧ Fr F0 H8 H9 ∧ ∀ b, ChM L2 b → b = l7 ∨ H8 b = none) (fun Q hQ => ?_) ?_
    · exact own_new e8 ln7 hm9 fun L H' g1 g2 g3 g4 => hQ _ _ ⟨L, rfl, g1, g2, g3, g4⟩
    rintro v9 H9 ⟨L2, rfl, o2, a2, f9, nw2⟩
    have inH8 : ∀ {b o}, H8 b = some o → b ≠ l7 → ¬ ChM L2 b := fun hb nb m2 => by
      rcases nw2 _ m2 with z | z
      · exact nb z
      · rw [hb] at z; cases z
    have d1t : ¬ ChM L1 t := inH7 hT7.ex.choose_spec.choose_spec.1
    have d1c : ¬ ChM L1 c := inH7 hT7.ex.choose_spec.choose_spec.2.1
    have d2t : ¬ ChM L2 t := inH8 hT8.ex.choose_spec.choose_spec.1 q7.symm
    have d2c : ¬ ChM L2 c := inH8 hT8.ex.choose_spec.choose_spec.2.1 q7'.symm
    have d12 : ∀ b, ChM L1 b → ¬ ChM L2 b := fun b m1 => by
      obtain ⟨o, ho⟩ := a1.here m1
      exact inH8 ho fun z => inH7 e7 (z ▸ m1)
    have d21 : ∀ b, ChM L2 b → ¬ ChM L1 b := fun b m2 m1 => d12 b m1 m2
    have e1 := o1
    obtain ⟨dx1, e1⟩ := e1
    have e2 := o2
    unfold chOwn at e2
    walk_at "st"
    refine x_rng1g (by decide) ?_
    refine for_rng (fun i σ H => ∃ v10 v11 v12 S, σ = [some (.ref a), some (.ref t), some (.int m), some (.int bs), some (.int s), some (.ref l7), none, some (.ref L1.root), some (.ref L2.root), none, v10, v11, v12] ∧ KeepT H L1 L2 t c m i S) ?_ ?_ ?_
    · exact ⟨none, none, none, chNew ns7, rfl, a1.fr0 f9, a2, hT8.fr0 f9, chNew_I nd7 (by omega) (by omega), ln7⟩
    · rintro i σ HA hi ⟨v10, v11, v12, S, rfl, ⟨aa, ab, aT, aI, am⟩⟩
      have hi : i < 44 := hi
      have rt2 := ab.rt
      simp only [e2] at rt2
      walk_at "st"
      refine x_rng1g (by omega) ?_
      rw [Int.toNat_natCast]
      refine lc_rngP (fun i => !decide (S.rows.getD i [] = [])) natV (by omega) (fun i H1 Kv Kn hi f k1 k2 => ?_) (fun lw HB hlw fB eB => ?_)
      · obtain ⟨p, r, ts, hp, hr, h1, h2⟩ := ab.rowF (i := i) (by omega)
        have hA := ab.fr0 f
        have rt1 := hA.rt
        simp only [e2] at rt1
        have rw1 := hA.rw
        have g1 := f.at0 h1
        have g2 := h2.fr f
        refine ⟨rfl, ?_⟩
        walk_at "st"
        rename_i z hz
        have fz : Fr F0 H1 (upd H1 z (.lst [])) := .new hz
        refine x_neL encLet (lst_lets (ws := r) (fz.at0 g1) (g2.fr fz)) (lst_nil encLet upd_same) ?_
        rw [getD_at hr] at k1 k2
        refine x_isB (x_nd2 (fun c => ?_) (fun c => ?_))
        · walk_at "st"
          exact k1 (by simpa using c) _ fz
        · exact k2 (by simpa using c) _ fz
      have eB : HB lw = some (.lst ((S.ways.map fun (i : Nat) => (i : Int)).map V.int)) := by
        rw [eB, List.map_map, ← am]; rfl
      have ba := aa.fr0 fB
      have bb := ab.fr0 fB
      have bT := aT.fr0 fB
      have lw1 : ¬ ChM L1 lw := aa.new hlw
      have lw2 : ¬ ChM L2 lw := ab.new hlw
      have lwt : lw ≠ t := (aT.new hlw).1
      have lwc : lw ≠ c := (aT.new hlw).2
      have rt1 := ba.rt
      simp only [e1] at rt1
      walk_at "st"
      refine ⟨L1, S, rfl, o1, ba, by omega, fun l1 HC hl1 fC eC => ?_⟩
      have eC : HC l1 = some (.lst ((S.ways.map fun (i : Nat) => (i : Int)).map V.int)) := by rw [eC, List.map_map]; rfl
      walk_at "st"
      refine x_neL encInt (lst_ints (SqL.of eC)) (lst_ints (SqL.of (fC.at0 eB))) ?_
      have ca := ba.fr0 fC
      have cb := bb.fr0 fC
      have rt1 := ca.rt
      simp only [e1] at rt1
      have rt2 := cb.rt
      simp only [e2] at rt2
      walk_at "st"
      refine ⟨L1, S, rfl, o1, ca, ?_⟩
      walk_at "st"
      refine x_rng1g (by omega) ?_
      rw [Int.toNat_natCast]
      refine lc_rngP (fun _ => true) (fun i => optV (S.known.getD i none)) (by omega) (fun i H1 Kv Kn hi f k1 k2 => ?_) (fun l2 HD hl2 fD eD => ?_)
      · have hA := ca.fr0 f
        have rt1 := hA.rt
        simp only [e1] at rt1
        obtain ⟨o, ho⟩ := at_lt (xs := S.known) (i := i) (by rw [ca.l2]; omega)
        refine ⟨rfl, lc_yes (x_t ?_)⟩
        walk_at "st"
        refine ⟨L1, S, i, o, rfl, o1, hA, ho, ?_⟩
        have := k1 rfl H1 (.refl H1)
        rw [getD_at ho] at this
        exact this
      rw [filt_all, ← am, ← ca.l2, range_getD optV none] at eD
      have da := ca.fr0 fD
      have db := cb.fr0 fD
      have dT := (bT.fr0 fC).fr0 fD
      have dw := fD.at0 (fC.at0 eB)
      have rt1 := da.rt
      simp only [e1] at rt1
      have rt2 := db.rt
      simp only [e2] at rt2
      walk_at "st"
      refine x_neL encOpt (lst_opts (SqL.of eD)) (lst_opts (SqL.of db.kn)) ?_
      walk_at "sq"
      refine ⟨t, c, m, rfl, dT, by omega, by omega, fun r HE r0 r1 eT fE => ?_⟩
      obtain ⟨p, rfl⟩ := Int.eq_ofNat_of_zero_le r0
      have hp : p < S.names.length := by omega
      have fE1 : ∀ b, ChM L1 b → ¬ tF t c b := fun b hb => by
        rintro (z | z) <;> subst z <;> contradiction
      have fE2 : ∀ b, ChM L2 b → ¬ tF t c b := fun b hb => by
        rintro (z | z) <;> subst z <;> contradiction
      have ea := da.fr fE fE1
      have eb := db.fr fE fE2
      have ew := fE.keep _ _ dw (by rintro (z | z) <;> contradiction)
      walk_at "sq"
      with_reducible refine x_ifs ?_
      obtain ⟨b1, hb1⟩ := at_lt (xs := S.act) (i := p) (by rw [ea.l1]; exact hp)
      obtain ⟨k1, hk1⟩ := at_lt (xs := S.known) (i := p) (by rw [ea.l2]; exact hp)
      refine x_tj (fun b HF => TownAt HF t c ∧ Fr (tF t c) HE HF ∧ (b = true → b1 = false ∧ k1 = none)) (fun Q hQ => ?_) ?_
      · refine x_and ?_
        refine x_tj (fun b HF => TownAt HF t c ∧ Fr (tF t c) HE HF) (fun Q hQ => ?_) ?_
        · walk_at "st"
          rename_i z hz
          have fz : Fr F0 HE (upd HE z (.lst [])) := .new hz
          refine x_eqL encInt (lst_ints (SqL.of (fz.at0 ew))) (lst_nil encInt upd_same) ?_
          walk_at "st"
          refine x_d2 (fun q1 => ?_) (fun q1 => ?_)
          · exact hQ _ _ ⟨eT.fr0 fz, fz.any⟩
          · walk_at "st"
            refine x_d2 (fun q2 => ?_) (fun q2 => ?_)
            · exact hQ _ _ ⟨eT.fr0 fz, fz.any⟩
            · walk_at "st"
              refine ⟨t, c, 5, rfl, eT.fr0 fz, by omega, by omega, fun r HF r0 r1 fT fF => ?_⟩
              walk_at "st"
              exact hQ _ _ ⟨fT, fz.any.trans fF⟩
        · rintro b HF ⟨fT, fF⟩
          have fa := ea.fr fF fE1
          have fb := eb.fr fF fE2
          have rt2 := fb.rt
          simp only [e2] at rt2
          have ac2 := fb.ac
          have kn2 := fb.kn
          cases b with
          | false =>
            walk_at "st"
            exact hQ _ _ ⟨fT, fF, fun z => nomatch z⟩
          | true =>
            walk_at "st"
            refine x_nb2 (fun q1 => ?_) (fun q1 => ?_)
            · walk_at "st"
              refine hQ _ _ ⟨fT, fF, fun z => ⟨q1, ?_⟩⟩
              cases k1 with
              | none => rfl
              | some v => exact nomatch (show V.int v = V.non from of_decide_eq_true z)
            · walk_at "st"
              exact hQ _ _ ⟨fT, fF, fun z => nomatch z⟩
      rintro b HF ⟨fT, fF, hb⟩
      have fa := ea.fr fF fE1
      have fb := eb.fr fF fE2
      have rt1 := fa.rt
      simp only [e1] at rt1
      have fw := fF.keep _ _ ew (by rintro (z | z) <;> contradiction)
      have sh : S.short 1000 := (aI.mono (l := 1000) (by omega)).sh
      cases b with
      | true =>
        obtain ⟨rfl, rfl⟩ := hb rfl
        walk_at "st"
        refine ⟨L1, S, p, rfl, o1, fa, hp, sh, hb1, hk1, fun HG ga gf => ?_⟩
        have gb := fb.fr gf d21
        have gT := fT.fr gf d1t d1c
        walk_at "st"
        refine ⟨L2, S, p, rfl, o2, gb, hp, sh, fun v HH hb2 hf => ?_⟩
        have ha2 := ga.fr hf d12
        have hT2 := gT.fr hf d2t d2c
        walk_at "st"
        exact ⟨_, _, _, _, rfl, ha2, hb2, hT2, aI.begun hp, am⟩
      | false =>
        walk_at "st"
        rename_i z hz
        have fz : Fr F0 HF (upd HF z (.lst [])) := .new hz
        have gw := fz.at0 fw
        have ga := fa.fr0 fz
        have gb := fb.fr0 fz
        have gT := fT.fr0 fz
        refine x_neL encInt (lst_ints (SqL.of gw)) (lst_nil encInt upd_same) ?_
        generalize upd HF z (.lst []) = HG at *
        walk_at "st"
        refine x_nd2 (fun q1 => ?_) (fun q1 => ?_)
        · walk_at "st"
          refine ⟨t, c, lw, _, rfl, gT, gw, lwt, lwc, by simpa using q1, ?_, fun j v HH hv hT hf => ?_⟩
          · rw [List.length_map, List.length_map]
            refine Nat.le_trans (List.length_filter_le _ _) ?_
            rw [List.length_range]; omega
          rw [List.map_map, List.getElem?_map] at hv
          obtain ⟨q, hq, rfl⟩ := Option.map_eq_some_iff.mp hv
          have hq := List.mem_of_getElem? hq
          obtain ⟨hq1, hq2⟩ := List.mem_filter.mp hq
          have hq1 := List.mem_range.mp hq1
          obtain ⟨r, hr⟩ := at_lt (xs := S.rows) (i := q) (by rw [ga.l3]; exact hq1)
          rw [getD_at hr] at hq2
          cases r with
          | nil => simp at hq2
          | cons w r =>
          have ha := ga.fr hf fE1
          have hb2 := gb.fr hf fE2
          have rt1 := ha.rt
          simp only [e1] at rt1
          walk_at "st"
          refine ⟨L1, S, q, w, r, rfl, o1, ha, hq1, sh, hr, fun _ hf => aI.free hf, fun HI ia iff => ?_⟩
          have ib := hb2.fr iff d21
          have iT := hT.fr iff d1t d1c
          walk_at "st"
          refine ⟨L2, S, q, w, r, rfl, o2, ib, hq1, sh, hr, fun HJ jb jf => ?_⟩
          have ja := ia.fr jf d12
          have jT := iT.fr jf d2t d2c
          walk_at "st"
          exact ⟨_, _, _, _, rfl, ja, jb, jT, aI.came hq1 hr, (congrArg List.length (came_names S q w r)).trans am⟩
        · walk_at "st"
          exact ⟨_, _, _, _, rfl, ga, gb, gT, aI.mono (by omega), am⟩
    · rintro σ HZ ⟨v10, v11, v12, S, rfl, _⟩
      walk_at "st"
      exact k HZ

/-! ### all defs, the law -/
theorem law_ok {G : En} (W : Wd G) {fd : FuncData} (F : FnP G.K "law" "law" s_law [] (He.ga G.K "law") fd) : FnG G CX0 6 (He.ga G.K "law") fd ["_law_script"] (spLaw G.K) := by
  have c0 := ok_is_whole W
  have c1 := ok_town W
  have c2 := ok_draw W
  have c3 := ok_pick W c2
  have b1 := ok_look W c0
  have b2 := ok_put W
  have b3 := ok_begin W b1 b2
  have b4 := ok_heard W b3 b2
  have b5 := ok_come W b1 b4 b2
  have d1 := ok_begun W
  exact ok_law W c1 c2 c3 d1 (ok_arrive W d1) (ok_init W c0) b3 b5 (ok_told W b1) (ok_letters W) (ok_ways W) F
/-! ### the end -/
theorem facts_law {P : Program} {w : World} {K : PySem.W.Frag} {h : Heap} {mg : Str → Option Value} {f : Addr} (X : K.In h) (N : h.Ns mainGlobals mg) (hfa : mg ("law" : Str) = some (.ref f)) (c : He.SaysD fa fn K) :
    ∃ fd : FuncData, (∀ (s : Shared) (v : Value), BindsTo s fd ⟨[v], []⟩ [("_law_script", v)]) ∧ ∀ base : Heap, K.In base → base.Ns mainGlobals mg → FnOk P w K mg base CX0 6 f fd ["_law_script"] (spLaw K) := by
  have W0 : Wd ⟨P, w, K, mg, h⟩ := wd_of X N c
  obtain ⟨fd, F⟩ := W0.f_law
  have e := hfa.symm.trans W0.g_law
  cases e
  have b := FunD.bindsA (ps := ["_law_script"]) F fun _ _ _ _ _ _ us hl => match us, hl with | [_], _ => rfl
  exact ⟨fd, fun s v => b s [v] rfl, fun base Xb Nb => law_ok (G := ⟨P, w, K, mg, base⟩) (wd_of Xb Nb c) F⟩
end Q
open PySem PySem.W PySem.Calls PyProof.Rows
theorem PySem.Challenge.cw_quietnet_k27_whole_choice_letters_holds : PySem.Challenge.rw_quietnet_k27_whole_choice_letters.Holds := by
  w_on; o_law
  refine HandSHeadRun.head_any (r := Q.R) (q := view Q.R.prog [17]) (H := Q.hk) (ob := Q.ob) (M := 30000) (loose := Q.loose) (d := HandSHeadRun.topDef Q.R.prog 17) (kwd := []) Q.ob_eq
    (by kernel_rfl) (fun s => by kernel_rfl) Q.run (by kernel_rfl) (by kernel_rfl) (by kernel_rfl) (by rfl) (by first | assumption | decide +kernel) (by decide +kernel) ⟨rfl, rfl, rfl, rfl, rfl, by decide +kernel⟩ ?hw ?hc
  case hw => w_witness2
  case hc =>
    refine L2.walk_ofE (l := PySem.Challenge.rw_quietnet_k27_whole_choice_letters) (n := 63) (k := 6) (x := "_law_script") (CX := L2.CX0) rfl (by decide) (by kernel_rfl) ⟨rfl, by decide, by decide⟩ ?F (fun _ _ _ _ z => z)
    intro w mg fa h Y N hmg0
    obtain ⟨K, KX, c⟩ := Y
    have hmg : mg ("law" : PySem.Str) = some (.ref fa) := by
      have e : (HandSHeadRun.topDef Q.R.prog 17).name = ("law" : PySem.Str) := by kernel_rfl
      rw [← e]
      exact hmg0
    obtain ⟨fd, hb, hF⟩ := Q.facts_law (P := PySem.Challenge.rw_quietnet_k27_whole_choice_letters.prog) (w := w) KX N hmg c
    exact ⟨K, fd, Q.spLaw K, KX, hb, fun H a ns hl _ hS => ⟨a, ns, rfl, hS, hl, fun _ => rfl⟩, hF⟩
