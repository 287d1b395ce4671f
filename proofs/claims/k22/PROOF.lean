import PyProof.Rows.All
import Wide.All
import OpenK.AllK
import Wide.FinOn
import HandS.ForMost
import HandS.IsInst
import HandS.Defaults
import HandS.FStr
import HandS.StrMore
import HandS.Flow
import HandS.More
import HandS.Walk
import HandS.Style
import HandS.ForExc
import HandS.ExcInit
import HandS.ExcIs
import HandS.ExcField
import HandS.WordsExc
import KE.KExcIs
import HandS.IntHex
import HandS.Codes
import HandS.Lambda
import HandS.TupAny
import HandS.SortInts
import HandS.Deep
import HandS.Conv
import PyProof.Rows.StrSplitMax
import HandS.Replace
import HandS.ReplaceLit
import HandS.MakeKw
import KE.GoesEnumKw
import HandS.Flt
import KE.KExcInit
import KE.KTryMore
import PyProof.CallStr
import PyProof.CallType
import PyProof.InstEq
import HandS.OwnEq
import PyProof.Conv_bool
import PyProof.ListTruth
import HandS.Small
import HandS.TupLe
import PyProof.ListRange
import HandS.Records
import KE.KIntText
import KE.IntTextLaws
import PyProof.Rows.StrSplit
import KE.DataMinKey
import KE.DataCmp
import HandS.FromBytesMap
import HandS.SortKw
import HandS.Zip
import KE.DatumOrd
import KE.SortKeyHeap
import HandS.EndTab
import HandS.Strs
import HandS.ExcOwn
import HandS.Dict
import HandS.RaiseMore
import HandS.CallLocal
import HandS.ReplaceDef
import HandS.TryOnly
import PyProof.SumWalkG
import KE.DataMinMax
import KE.SortData
import HandS.TupMul
import PySem.Challenge.RW_nightpaper_k22_advertisements_stood
set_option Elab.async false
set_option linter.all false
set_option maxRecDepth 100000
set_option maxHeartbeats 4000000
namespace Np
open PySem L2
def Glb (mg : Str → Option Value) (x : Str) (v : V) : Prop := ∃ u, mg x = some u ∧ RelV v u
section
variable {X : Cx} {k n : Nat} {f : Addr} {fd : FuncData} {ps ks : List Str} {sp : Sp} {x : Str} {p pos : Pos} {e : Expr} {es : List Expr} {kws : List Keyword} {t tk : TA} {v : V}
theorem pe_g (h : Glb X.mg x v) (hg : Gl X x := by rfl) (hd : (x == ("__debug__" : Str)) = false := by decide) : PE X (.Name x pos) (tC v) := by
  obtain ⟨u, hm, r⟩ := h
  exact pe_glob hg hm r hd
def KB (K : PySem.W.Frag) (fd : FuncData) (ps : List Str) (n : Nat) (ks : List Str) (gV : List V → List V → List V) : Prop := ∃ g, KBn K fd ps n ks g gV
end
theorem Fun.kb {K : PySem.W.Frag} {x qual : Str} {st : Stmt} {f : Addr} {fd : FuncData} {ps : List Str} (F : Fun K x qual st f fd) (n : Nat) (ks : List Str) (g : {α : Type} → List α → List α → List α)
    (hrel : ∀ {vs zs : List V} {us ws : List Value}, Vals vs us → Vals zs ws → Vals (g vs zs) (g us ws))
    (h : ∀ (kV doc pm : Value) (an : Option Addr) (cdv ct : Value) (us ws : List Value), us.length = n → ws.length = ks.length → bindArgs (PySem.W.fnOf x qual (defArgs st) (defBody st) (defScope st) .none kV doc pm an cdv ct) ⟨us, ks.zip ws⟩ = pure (ps.zip (g us ws))) : KB K fd ps n ks g := by
  obtain ⟨oc, od, kV, doc, pm, an, cdv, ct, osl, rfl, lk, hcd⟩ := F.ex
  exact ⟨fun us ws => g us ws, ⟨fun s us ws X l1 l2 => .of_eq (h kV doc pm an cdv ct us ws l1 l2), fun r1 r2 => hrel r1 r2⟩⟩
theorem same_new {H : Hp} {p : Addr} {o : HO} (h : H p = none) : Same H (upd H p o) := fun a u e => by
  rw [upd_ne (ne_of_none e h)]
  exact e
theorem same_mut {G H : Hp} {p : Addr} {o : HO} (e : Same G H) (h : G p = none) : Same G (upd H p o) := fun a u ha => by
  rw [upd_ne (ne_of_none ha h)]
  exact e a u ha
theorem same_both {G H : Hp} {p : Addr} {o : HO} (e : Same G H) : Same (upd G p o) (upd H p o) := fun a u ha => by
  by_cases hp : a = p
  · subst hp
    rw [upd_same] at ha
    rw [upd_same]
    exact ha
  · rw [upd_ne hp] at ha
    rw [upd_ne hp]
    exact e a u ha
end Np
namespace Np
open PySem L2
/-- data that can be held beside others: k the depth -/
def Fine (k : Nat) (d : PyData) : Prop := PyData.canLay0 d = true ∧ PyData.depth d ≤ k
theorem canLayAll_of : ∀ {ds : List PyData}, (∀ d ∈ ds, PyData.canLay0 d = true) → PyData.canLayAll0 ds = true
  | [], _ => rfl
  | d :: ds, h => by
    show (PyData.canLay0 d && PyData.canLayAll0 ds) = true
    rw [h d List.mem_cons_self, canLayAll_of fun x hx => h x (List.mem_cons_of_mem _ hx)] <;> rfl
theorem depthAll_of {k : Nat} : ∀ {ds : List PyData}, (∀ d ∈ ds, PyData.depth d ≤ k) → PyData.depthAll ds ≤ k
  | [], _ => Nat.zero_le _
  | d :: ds, h => by
    show max (PyData.depth d) (PyData.depthAll ds) ≤ k
    exact Nat.max_le.mpr ⟨h d List.mem_cons_self, depthAll_of fun x hx => h x (List.mem_cons_of_mem _ hx)⟩
theorem Fine.list {k : Nat} {ds : List PyData} (h : ∀ d ∈ ds, Fine k d) : Fine (k + 1) (.list ds) := ⟨canLayAll_of fun d hd => (h d hd).1, Nat.succ_le_succ (depthAll_of fun d hd => (h d hd).2)⟩
theorem Fine.tuple {k : Nat} {ds : List PyData} (h : ∀ d ∈ ds, Fine k d) : Fine (k + 1) (.tuple ds) := ⟨canLayAll_of fun d hd => (h d hd).1, Nat.succ_le_succ (depthAll_of fun d hd => (h d hd).2)⟩
theorem Fine.int (i : Int) : Fine 0 (.int i) := ⟨rfl, Nat.le_refl _⟩
theorem Fine.bool (b : Bool) : Fine 0 (.bool b) := ⟨rfl, Nat.le_refl _⟩
theorem Fine.none : Fine 0 .none := ⟨rfl, Nat.le_refl _⟩
theorem Fine.str {x : Str} (h : PyData.strOk x = true) : Fine 0 (.str x) := ⟨h, Nat.le_refl _⟩
theorem Fine.mono {j k : Nat} {d : PyData} (h : Fine j d) (hk : j ≤ k) : Fine k d := ⟨h.1, Nat.le_trans h.2 hk⟩
theorem Fine.shaped {k : Nat} {d : PyData} (h : Fine k d) (hk : k ≤ 64 := by decide) : SeqAt.shaped d = true := by
  unfold SeqAt.shaped
  rw [h.1, decide_eq_true (Nat.le_trans h.2 hk)] <;> rfl
theorem fine_ints (ns : List Int) : Fine 1 (.list (ns.map PyData.int)) := Fine.list fun d hd => by
  obtain ⟨i, _, rfl⟩ := List.mem_map.mp hd
  exact Fine.int i
theorem shaped_ints (ns : List Int) : SeqAt.shaped (.list (ns.map PyData.int)) = true := (fine_ints ns).shaped
theorem eqv_nil (ds : List PyData) : PyData.eqv (.list ds) (.list []) = ds.isEmpty := by
  cases ds <;> rfl
end Np
namespace Np
open PySem L2
/-- a thing of a built-in kind -/
def Th (H : Hp) (v : V) : Prop := v = .non ∨ (∃ b, v = .bl b) ∨ (∃ i, v = .int i) ∨ (∃ x, v = .str x) ∨ (∃ a xs, v = .ref a ∧ H a = some (.lst xs)) ∨ (∃ a xs, v = .ref a ∧ H a = some (.tup xs)) ∨ (∃ a kvs, v = .ref a ∧ H a = some (.dK kvs))
theorem Th.mono {G H : Hp} {v : V} (s : Same G H) (h : Th G v) : Th H v := by
  rcases h with h | h | h | h | ⟨a, xs, e, h⟩ | ⟨a, xs, e, h⟩ | ⟨a, xs, e, h⟩
  · exact .inl h
  · exact .inr (.inl h)
  · exact .inr (.inr (.inl h))
  · exact .inr (.inr (.inr (.inl h)))
  · exact .inr (.inr (.inr (.inr (.inl ⟨a, xs, e, s _ _ h⟩))))
  · exact .inr (.inr (.inr (.inr (.inr (.inl ⟨a, xs, e, s _ _ h⟩)))))
  · exact .inr (.inr (.inr (.inr (.inr (.inr ⟨a, xs, e, s _ _ h⟩)))))
theorem Th.bl {H : Hp} (b : Bool) : Th H (.bl b) := .inr (.inl ⟨b, rfl⟩)
theorem Th.int {H : Hp} (i : Int) : Th H (.int i) := .inr (.inr (.inl ⟨i, rfl⟩))
theorem Th.str {H : Hp} (x : Str) : Th H (.str x) := .inr (.inr (.inr (.inl ⟨x, rfl⟩)))
theorem Th.lst {H : Hp} {a : Addr} {xs : List V} (h : H a = some (.lst xs)) : Th H (.ref a) := .inr (.inr (.inr (.inr (.inl ⟨a, xs, rfl, h⟩))))
theorem Th.tup {H : Hp} {a : Addr} {xs : List V} (h : H a = some (.tup xs)) : Th H (.ref a) := .inr (.inr (.inr (.inr (.inr (.inl ⟨a, xs, rfl, h⟩)))))
theorem Th.dK {H : Hp} {a : Addr} {xs : List (Key × V)} (h : H a = some (.dK xs)) : Th H (.ref a) := .inr (.inr (.inr (.inr (.inr (.inr ⟨a, xs, rfl, h⟩)))))
theorem len_cut (z : Str) (lo hi : Option Int) : (cutS z lo hi).length ≤ z.length := by
  unfold cutS
  show (List.toArray _).size ≤ _
  rw [List.size_toArray, List.length_take, List.length_drop, Array.length_toList]
  show _ ≤ z.cps.size
  omega
end Np
namespace Np
open PySem L2
section
variable {X : Cx} (K : PySem.W.Frag)
theorem op_eqDK (hu : X.A.units + 64 < cLine) (h : X.K = K := by rfl) : OpR X (compareOp .Eq) (rEqD K) := by subst h; exact op_eqD hu
theorem op_neDK (hu : X.A.units + 64 < cLine) (h : X.K = K := by rfl) : OpR X (compareOp .NotEq) (rNeD K) := by subst h; exact op_neD hu
theorem ix_listK (h : X.K = K := by rfl) : IxR X (rIxL K) := by subst h; exact ix_list
theorem ix_tupK (h : X.K = K := by rfl) : IxR X (rIxT K) := by subst h; exact ix_tup
theorem sl_listK (h : X.K = K := by rfl) : SlR X (rSlL K) := by subst h; exact sl_list
def rLenK : List V → Hp → VK → Prop := fun xs H Q => ∃ p ys, xs = [.ref p] ∧ (SqL K H p ys ∨ SqT K H p ys) ∧ Q (.int ys.length) H
theorem call_lenK (h : X.K = K := by rfl) : CallR X (.builtin "len") (rLenK K) := by subst h; exact call_len_seq
def rListK : List V → Hp → VK → Prop := fun xs H Q => ∃ p ys, xs = [.ref p] ∧ (SqL K H p ys ∨ SqT K H p ys) ∧ ∀ l, H l = none → Q (.ref l) (upd H l (.lst ys))
theorem call_listK (h : X.K = K := by rfl) : CallR X (.type "list") (rListK K) := by subst h; exact call_list_of
theorem cr_sumK (hc : X.calm = true) (h : X.K = K := by rfl) : CallR X (.builtin "sum") (rSum K) := by subst h; exact cr_sum hc
theorem cr_maxK (hc : X.calm = true) (h : X.K = K := by rfl) : CallR X (.builtin "max") (rMax K) := by subst h; exact cr_max hc
theorem pi_listK {tg l : Expr} {tl : TE} (hl : PE X l tl) (h : X.K = K := by rfl) : PI X tg l (iList K tl) := by subst h; exact pi_list hl
theorem pi_enumK {e : Expr} {ta : TA} {p pos tpos : Pos} {elts : List Expr} {kk : Nat} (hg : Gl X "enumerate") (hm : X.mg "enumerate" = none) (ha : PA X [e] ta) (hs : starEach [e] X.env = [(false, eval e X.env)] := by rfl) (h : X.K = K := by rfl) :
    PI X (.Tuple elts kk tpos) (.Call (.Name "enumerate" p) [e] [] pos) (iEnum K ta) := by subst h; exact pi_enum hg hm ha hs
theorem pg_tupK {es : List Expr} {k n : Nat} {t : TGs} {pos : Pos} (hc : X.calm = true) (h' : PGs X es t)
    (hn : (assignEach es X.env).length = n := by rfl) (hst : (assignEach es X.env).findIdx? (·.1) = none := by rfl) (h : X.K = K := by rfl) : PG X (.Tuple es k pos) (gTup K n t) := by subst h; exact pg_tup hc h' hn hst
def rJoinK : V → List V → Hp → VK → Prop := fun x xs H Q => ∃ a p, ∃ ys : List Str, x = .str a ∧ xs = [.ref p] ∧ (SqL K H p (ys.map V.str) ∨ SqT K H p (ys.map V.str)) ∧
      (ys.map (·.length)).sum + ys.length * a.length ≤ 16777216 ∧ Q (.str (Txt.join a ys)) H
theorem pe_joinK {o e : Expr} {to te : TE} {apos pos : Pos} (ho : PE X o to) (he : PE X e te) (hs : starEach [e] X.env = [(false, eval e X.env)] := by rfl) (hbase : attributeBase o "join" X.env (eval o X.env) = eval o X.env := by rfl) (hline : (apos.endLine == pos.line) = true := by rfl) (h : X.K = K := by rfl) :
    PE X (.Call (.Attribute o "join" apos) [e] [] pos) (tM1 (rJoinK K) to te) := by subst h; exact pe_join ho he hs hbase hline
theorem pe_bmK {T : String} {name : Str} {id : String} {r : V → List V → Hp → VK → Prop} {o e : Expr} {es : List Expr} {to : TE} {t : TA} {apos cpos : Pos} (pa : PlainAttrs T) (slot : Slot T name id) (hty : typeOf (.builtin id) = pure (.type "method_descriptor")) (hm : MtR X id r) (ho : PE X o to) (ha : PA X (e :: es) t)
    (hbase : attributeBase o name X.env (eval o X.env) = eval o X.env := by rfl)
    (hfew : ((backTo cpos (starEach (e :: es) X.env)).all (fun x => !x.1) && (backToKw cpos (keywordEach [] X.env)).all (fun x => x.1.isSome)
      && decide ((e :: es).length + ([] : List Keyword).length + (if ([] : List Keyword).isEmpty then 0 else 1) < 30)) = true := by rfl)
    (hline : (apos.endLine == cpos.line) = true := by rfl) (hs : starEach (e :: es) X.env = (false, eval e X.env) :: starEach es X.env := by rfl) (hplain : (backTo cpos (starEach es X.env)).any (·.1) = false := by rfl) (h : X.K = K := by rfl) :
    PE X (.Call (.Attribute o name apos) (e :: es) [] cpos) (tBM K T r to t) := by subst h; exact pe_bm pa slot hty hm ho ha hbase hfew hline hs hplain
theorem pe_bm0K {T : String} {name : Str} {id : String} {r : V → List V → Hp → VK → Prop} {o : Expr} {to : TE} {apos cpos : Pos} (pa : PlainAttrs T) (slot : Slot T name id) (hty : typeOf (.builtin id) = pure (.type "method_descriptor")) (hm : MtR X id r) (ho : PE X o to)
    (hbase : attributeBase o name X.env (eval o X.env) = eval o X.env := by rfl) (hline : (apos.endLine == cpos.line) = true := by rfl) (h : X.K = K := by rfl) : PE X (.Call (.Attribute o name apos) [] [] cpos) (tBM0 K T r to) := by subst h; exact pe_bm0 pa slot hty hm ho hbase hline
end
end Np
namespace Np
open PySem L2
structure Tx (n : Nat) (x : Str) : Prop where
  len : x.length ≤ n
  ok : ∀ c ∈ x.cps.toList, c < 1114112
theorem Tx.strOk {n : Nat} {x : Str} (h : Tx n x) : PyData.strOk x = true := by
  unfold PyData.strOk
  rw [← Array.all_toList]
  exact List.all_eq_true.mpr fun c hc => decide_eq_true (h.ok c hc)
theorem Tx.mono {n m : Nat} {x : Str} (h : Tx n x) (hm : n ≤ m) : Tx m x := ⟨Nat.le_trans h.len hm, h.ok⟩
theorem Tx.cut {n : Nat} {x : Str} (h : Tx n x) (lo hi : Option Int) : Tx n (cutS x lo hi) := by
  refine ⟨Nat.le_trans (len_cut x lo hi) h.len, fun c hc => ?_⟩
  unfold cutS at hc
  exact h.ok c (List.mem_of_mem_drop (List.mem_of_mem_take hc))
theorem Tx.sign {c : Nat} (h : c < 1114112) : Tx 1 (⟨#[c]⟩ : Str) := ⟨Nat.le_refl _, fun d hd => by
  have e : d = c := List.mem_singleton.mp hd
  rw [e]
  exact h⟩
theorem atI_mem {α : Type} {xs : List α} {i : Int} {v : α} (h : atI xs i = some v) : v ∈ xs := by
  obtain ⟨j, _, hj, _⟩ := atI_get h
  exact List.mem_of_getElem? hj
theorem Tx.at {n : Nat} {x : Str} {i : Int} {c : Nat} (h : Tx n x) (e : atI x.cps.toList i = some c) : Tx 1 (⟨#[c]⟩ : Str) := Tx.sign (h.ok c (atI_mem e))
theorem ofString_ok (s : String) : ∀ c ∈ (Str.ofString s).cps.toList, c < 1114112 := fun c hc => by
  rw [Str.ofString_eq_toList] at hc
  obtain ⟨d, _, rfl⟩ := List.mem_map.mp hc
  have h := d.valid
  have e : d.toNat = d.val.toNat := rfl
  rcases h with h | ⟨_, h⟩ <;> omega
theorem ofString_len (s : String) : (Str.ofString s).length = s.length := by
  rw [Str.ofString_eq_toList]
  show (List.toArray _).size = _
  rw [List.size_toArray, List.length_map, String.length_toList]
theorem Tx.num {i : Int} {k : Nat} (hk : 0 < k) (h : i.natAbs < 10 ^ k) : Tx (k + 1) (Str.ofString (toString i)) :=
  ⟨by rw [ofString_len]; exact int_text_length_le10 hk h, ofString_ok _⟩
end Np
namespace Np
open PySem L2
def But (t : Addr) (H H' : Hp) : Prop := ∀ b o, b ≠ t → H b = some o → H' b = some o
theorem But.refl {t : Addr} {H : Hp} : But t H H := fun _ _ _ h => h
theorem But.trans {t : Addr} {H H1 H2 : Hp} (a : But t H H1) (b : But t H1 H2) : But t H H2 := fun c o n h => b c o n (a c o n h)
theorem But.of {t : Addr} {H H' : Hp} (s : Same H H') : But t H H' := fun b o _ h => s b o h
theorem But.mut {t : Addr} {H : Hp} {o : HO} : But t H (upd H t o) := fun b u n h => by rw [upd_ne n]; exact h
theorem But.new {t p : Addr} {H : Hp} {o : HO} (n : H p = none) : But t H (upd H p o) := But.of (same_new n)
/-- a tape at tp, over what stays (G): its cells, how many were begun (at most n), what is left of a great one -/
def Tape (K : PySem.W.Frag) (G H : Hp) (tp : Addr) (n : Nat) : Prop := Same G H ∧ G tp = none ∧ ∃ (c : Addr) (ns : List Int) (at' left : Int),
  SqL K G c (ns.map V.int) ∧ H tp = some (.lst [.ref c, .int at', .int left]) ∧ 0 ≤ at' ∧ at' ≤ n ∧ 0 ≤ left
section
variable {K : PySem.W.Frag} {G H H' : Hp} {tp p : Addr} {n m : Nat} {o : HO}
theorem Tape.step {c : Addr} {ns : List Int} {a b : Int} (s : Same G H) (g : G tp = none) (hc : SqL K G c (ns.map V.int)) (h0 : 0 ≤ a) (h1 : a ≤ n) (h2 : 0 ≤ b) :
    Tape K G (upd H tp (.lst [.ref c, .int a, .int b])) tp n := ⟨same_mut s g, g, c, ns, a, b, hc, upd_same, h0, h1, h2⟩
theorem Tape.at (t : Tape K G H tp n) : ∃ xs, H tp = some (.lst xs) := by
  obtain ⟨_, _, c, ns, a, b, _, h, _⟩ := t
  exact ⟨_, h⟩
theorem Tape.ex (t : Tape K G H tp n) : ∃ u, H tp = some u := by
  obtain ⟨xs, h⟩ := t.at
  exact ⟨_, h⟩
theorem Tape.ne (t : Tape K G H tp n) (h : H p = none) : p ≠ tp := by
  obtain ⟨xs, e⟩ := t.at
  exact fun z => by rw [z, e] at h; cases h
theorem Tape.new (t : Tape K G H tp n) (h : H p = none) : Tape K G (upd H p o) tp n := by
  have e := t.ne h
  obtain ⟨s, g, c, ns, a, b, hc, hT, r⟩ := t
  exact ⟨s.trans (same_new h), g, c, ns, a, b, hc, by rw [upd_ne e.symm]; exact hT, r⟩
/-- another object, that does not stay, changes -/
theorem Tape.mut (t : Tape K G H tp n) (g' : G p = none) (e : p ≠ tp) : Tape K G (upd H p o) tp n := by
  obtain ⟨s, g, c, ns, a, b, hc, hT, r⟩ := t
  exact ⟨same_mut s g', g, c, ns, a, b, hc, by rw [upd_ne e.symm]; exact hT, r⟩
/-- an object stays from now on -/
theorem Tape.keep (t : Tape K G H tp n) (h : H p = some o) (e : p ≠ tp) (g' : G p = none) : Tape K (upd G p o) H tp n := by
  obtain ⟨s, g, c, ns, a, b, hc, hT, r⟩ := t
  refine ⟨fun q u hq => ?_, by rw [upd_ne e.symm]; exact g, c, ns, a, b, (same_new g').seq hc, hT, r⟩
  by_cases z : q = p
  · subst z
    rw [upd_same] at hq
    rw [← hq]
    exact h
  · rw [upd_ne z] at hq
    exact s q u hq
/-- a new object that stays -/
theorem Tape.newK (t : Tape K G H tp n) (h : H p = none) : Tape K (upd G p o) (upd H p o) tp n :=
  (t.new h).keep upd_same (t.ne h) (t.1.free h)
theorem Tape.mono (t : Tape K G H tp n) (h : n ≤ m) : Tape K G H tp m := by
  obtain ⟨s, g, c, ns, a, b, hc, hT, h0, h1, h2⟩ := t
  exact ⟨s, g, c, ns, a, b, hc, hT, h0, by omega, h2⟩
theorem Tape.free (t : Tape K G H tp n) (h : H p = none) : G p = none := t.1.free h
end
end Np
namespace Np
open PySem L2
theorem Tx.empty : Tx 0 (⟨#[]⟩ : Str) := ⟨Nat.le_refl _, fun c hc => by cases hc⟩
end Np
namespace Np
open PySem L2
theorem Tape.grow {K : PySem.W.Frag} {G H : Hp} {tp p : Addr} {n : Nat} {o : HO} (t : Tape K G H tp n) (h : H p = none) : ∃ G1, Same G G1 ∧ G1 p = some o ∧ Tape K G1 (upd H p o) tp n :=
  ⟨upd G p o, same_new (t.free h), upd_same, t.newK h⟩
end Np
namespace Np
open PySem PySem.Spec PyProof.Rows L2
def revS (z : Str) : Str := ⟨z.cps.toList.reverse.toArray⟩
theorem pe_revLK {X : Cx} (K : PySem.W.Frag) {e : Expr} {te : TE} {k : Nat} {p1 p2 p3 pos : Pos} (he : PE X e te) (h : X.K = K := by rfl) : PE X (.Subscript e (.Slice none none (some (.UnaryOp .USub (.Constant (.int 1) k p1) p2)) p3) pos) (tRevL K te) := by subst h; exact pe_revL he
end Np
namespace Np
open PySem L2
theorem Tx.size {n : Nat} {x : Str} (h : Tx n x) (hs : n ≤ 16777216 := by omega) : x.length ≤ sizeLine := by
  rw [sizeLine_eq]
  exact Nat.le_trans h.len hs
end Np
namespace Np
open PySem L2
theorem But.free {t p : Addr} {H H' : Hp} (b : But t H H') (h : H' p = none) (e : p ≠ t) : H p = none := by
  cases q : H p with
  | none => rfl
  | some o => rw [b p o e q] at h; cases h
end Np
set_option Elab.async false
set_option linter.all false
set_option maxRecDepth 100000
set_option maxHeartbeats 4000000
namespace Np
open PySem PySem.Spec PyProof.Rows L2
def exk (a : Addr) (oe : Obj) : HO := .ext fun h => h.get? a = some oe
structure Kept (H : Hp) (a C : Addr) (d : Option Addr) (fs : List (Str × V)) : Prop where
  ex : ∃ oe vs, H a = some (exk a oe) ∧ Zc (.ref C) d oe ∧ oe.data = .fields vs
  dc : ∀ dd, d = some dd → H dd = some (.xd fs)
theorem Kept.mono {H H' : Hp} {a C : Addr} {d : Option Addr} {fs : List (Str × V)} (k : Kept H a C d fs) (s : Same H H') : Kept H' a C d fs := by
  obtain ⟨oe, vs, h1, h2, h3⟩ := k.ex
  exact ⟨⟨oe, vs, s _ _ h1, h2, h3⟩, fun dd e => s _ _ (k.dc dd e)⟩
/-- what the clause's end tracks is a kept exception -/
theorem Kept.of {H : Hp} {a C : Addr} {d : Option Addr} {fs : List (Str × V)} {oe : Obj} {vs : Array Value} (na : H a = none) (z : Zc (.ref C) d oe) (dt : oe.data = .fields vs) (hd : ∀ dd, d = some dd → H dd = some (.xd fs)) : Kept (upd H a (exk a oe)) a C d fs :=
  ⟨⟨oe, vs, upd_same, z, dt⟩, fun dd e => by rw [upd_ne (ne_of_none (hd dd e) na)]; exact hd dd e⟩
/-- B.__init__(self, ..), B an own class over ValueError without its own __init__ -/
structure BaseC (K : PySem.W.Frag) (mg : Str → Option Value) (x : Str) (B : Addr) : Prop where
  m : mg x = some (.ref B)
  sp : PySem.W.specialIn K (.ref B) "__getattribute__" = some (some (.builtin "type.__getattribute__"))
  rd : PySem.W.readsIn K B (.type "type") = true
  ini : PySem.W.findCls K (.ref B) (.type "type") "__init__" = some (.val (.builtin "ValueError.__init__"))
theorem pe_binit {X : Cx} (K : PySem.W.Frag) {x : Str} {B : Addr} {e : Expr} {es : List Expr} {ta : TA} {p1 p2 pos : Pos} {pl : Sem Bool} (T : BaseC X.K X.mg x B) (ha : PA X (e :: es) ta) (hg : Gl X x := by rfl)
    (hc : eval (.Call (.Attribute (.Name x p1) "__init__" p2) (e :: es) [] pos) X.env = (do
      let who ← eval (.Name x p1) X.env
      standAt p2.atName
      let (g, ahead) ← holding [who] (getMethod who "__init__" pl)
      callWith pos g ahead (backTo pos (starEach (e :: es) X.env)) (backToKw pos (keywordEach [] X.env))) := by rfl)
    (hs : starEach (e :: es) X.env = (false, eval e X.env) :: starEach es X.env := by rfl) (hp : (backTo pos (starEach es X.env)).any (·.1) = false := by rfl) (hdb : (x == ("__debug__" : Str)) = false := by decide) (hK : X.K = K := by rfl) :
    PE X (.Call (.Attribute (.Name x p1) "__init__" p2) (e :: es) [] pos) (tVeI K ta) := by
  subst hK
  refine ⟨fun pins s σ H Q I h => ?_⟩
  refine PySem.W.methodCall_KW (ld_glob I hg T.m ?_ hdb) hc
  obtain ⟨m, fr⟩ := I.fr
  refine PySem.W.method_cls I.kIn T.sp ?_
  refine PySem.W.cls_value I.kIn T.rd T.ini (by decide +kernel) ?_
  show wpAny _ _ (callWith pos (Value.builtin "ValueError.__init__") [] (backTo pos (starEach (e :: es) X.env)) []) _ _ _
  refine PyProof.Rows.callWith_method1 (L2.thn (ha.run pos pins _ σ H _ (I.tok _) h) fun us s1 hh => ?_) hs hp
  obtain ⟨vs, H1, I1, r1, a, C, ws, ev, hl, T', ea, q⟩ := hh
  subst ev
  cases r1 with
  | @cons _ u0 _ ur ra rw' =>
    obtain rfl : u0 = Value.ref a := ra
    exact oinit_ok T' I1 ea (by rw [← Paired.length rw', sizeLine_eq]; omega) fun s' J => ⟨.non, H1, J, rfl, q⟩
end Np
set_option Elab.async false
set_option linter.all false
set_option maxRecDepth 100000
set_option maxHeartbeats 4000000
namespace Np
open PySem PySem.Spec PyProof.Rows L2
structure FnG (P : Program) (w : World) (K : PySem.W.Frag) (mg : Str → Option Value) (base : Heap) (CX : CXT) (k : Nat) (f : Addr) (fd : FuncData) (ps : List Str) (sp : Sp) : Prop where
  len : ∀ vs H Q E, sp vs H Q E → vs.length = ps.length
  run : ∀ (A : Around) (outer : List Env) (s : Shared) (H : Hp) (args : Args) (us : List Value) (vs : List V) (Q : VK) (E : XK), A.guards = some [] → Room k A → Env0 P w K mg base A outer s H → BindsTo s fd args (ps.zip us) → Vals vs us → sp vs H Q E →
    codeAny (model P w) A (.call (.ref f) args) (CR CX outer P w H s Q E) s
section
variable {P : Program} {w : World} {K : PySem.W.Frag} {mg : Str → Option Value} {base : Heap} {CX : CXT} {k : Nat} {f : Addr} {fd : FuncData} {ps : List Str} {sp : Sp}
theorem FnG.of (F : FnOk P w K mg base CX k f fd ps sp) : FnG P w K mg base CX k f fd ps sp := ⟨F.len, fun A outer s H args us vs Q E _ hr => F.run A outer s H args us vs Q E hr⟩
end
theorem fn_ofG {CX : CXT} {P : Program} {w : World} {K : PySem.W.Frag} {mg : Str → Option Value} {base : Heap} {k : Nat} {f : Addr} {name qual : Str} {params : Arguments} {body : List Stmt} {scope : Scope} {dV kV doc pm cdv ct oc : Value} {an od : Option Addr}
    {osl : Array (Option Value)} {N ps : List Str} {sp : Sp} (lk : K.lookup f = some ⟨oc, od, .func (PySem.W.fnOf name qual params body scope dV kV doc pm an cdv ct), osl⟩) (hcd : PySem.W.codeIn K cdv qual = true) (S : FnScope N ps scope)
    (len : ∀ vs H Q E, sp vs H Q E → vs.length = ps.length)
    (hbody : ∀ (A : Around) (outer : List Env) (s : Shared) (H : Hp) (vs : List V) (Q : VK) (E : XK), A.guards = some [] → Room k (A.deeper (envOfC qual scope s.heap.objs.size f cdv)) → sp vs H Q E →
      ∃ t, PSs (cxOf CX P w K mg base N qual scope f cdv A outer s H E) body t ∧ t { nx := fun _ H' => Q .non H', rt := Q } (start N vs) H) :
    FnG P w K mg base CX (k + 1) f (PySem.W.fnOf name qual params body scope dV kV doc pm an cdv ct) ps sp := by
  refine ⟨len, fun A outer s H args us vs Q E hgd room e0 hbi rel hsp => ?_⟩
  have hlen := len _ _ _ _ hsp
  have inK : K.In s.heap := e0.mod.kin.keeps fun b o q => (e0.bs b o q).1
  have limit : s.heap.NoLimit := e0.mod.nolimit.keeps fun b o q => (e0.bs b o q).1
  have kinds : ∀ y ∈ ps.zip us, scope.names.lookup y.1 = some .local ∨ (scope.names.lookup y.1 = some .cell ∧ ((cellsFrom (s.heap.objs.size + 1) scope.names []).lookup y.1).isSome = true) := fun ⟨nm, v⟩ hy => by
    rcases S.par nm (List.of_mem_zip hy).1 with z | z
    · exact .inl z
    · exact .inr ⟨z, PySem.W.cellsFrom_some _ _ _ (.inl z)⟩
  refine codeAny_call_function room.depth (inK _ _ lk) rfl S.co S.gen rfl (PySem.W.codeRec_of inK hcd) (hbi _ _ _ _ ?_)
  refine wpAny_newFunctionEnv_cells S.kind kinds fun env henv s1 x => ?_
  subst henv
  refine ⟨limit.keeps x.toInCall.keep, codeAny_func ?_⟩
  obtain ⟨t, ht, hq⟩ := hbody A outer s H vs Q E hgd (room.deeper _) hsp
  have I0 : L2.Inv (cxOf CX P w K mg base N qual scope f cdv A outer s H E) [] (start N vs) H s1 := inv_start S room.hd e0 hlen rel x
  refine wpAny_mono (ht.run [] s1 (start N vs) H _ I0 hq) (fun fl s' hs => ?_) fun _ _ z => z
  have done : ∀ {σ' : L2.St} {H' : Hp} {v : V} {u : Value}, L2.Inv (cxOf CX P w K mg base N qual scope f cdv A outer s H E) [] σ' H' s' → RelV v u → Q v H' → CE outer P w H s Q u s' :=
    fun {σ' H' v u} J rv q => ⟨v, H', J.os, J.bare, J.base, J.hok, rv, q⟩
  cases fl with
  | ret u =>
    obtain ⟨v, σ', H', J, rv, q⟩ := hs
    exact done J rv q
  | next =>
    obtain ⟨σ', H', J, q⟩ := hs
    exact done (v := V.non) (u := Value.none) J rfl q
  | brk =>
    obtain ⟨_, _, _, q⟩ := hs
    exact q.elim
  | cont =>
    obtain ⟨_, _, _, q⟩ := hs
    exact q.elim
section
variable {P : Program} {w : World} {K : PySem.W.Frag} {mg : Str → Option Value} {base : Heap} {x qual : Str} {st : Stmt} {f : Addr} {fd : FuncData} {N ps : List Str} {k : Nat} {sp : Sp}
theorem Fun.okG (F : Fun K x qual st f fd) (S : FnScope N ps (defScope st)) (len : ∀ vs H Q E, sp vs H Q E → vs.length = ps.length)
    (hbody : ∀ (cdv : Value) (A : Around) (outer : List Env) (s : Shared) (H : Hp) (vs : List V) (Q : VK) (E : XK), (A.deeper (envOfC qual (defScope st) s.heap.objs.size f cdv)).guards = some [] → Room k (A.deeper (envOfC qual (defScope st) s.heap.objs.size f cdv)) → sp vs H Q E →
      ∃ t, PSs (cxOf CX0 P w K mg base N qual (defScope st) f cdv A outer s H E).nox (defBody st) t ∧ t { nx := fun _ H' => Q .non H', rt := Q } (start N vs) H) : FnG P w K mg base CX0 (k + 1) f fd ps sp := by
  obtain ⟨oc, od, kV, doc, pm, an, cdv, ct, osl, rfl, lk, hcd⟩ := F.ex
  refine fn_ofG lk hcd S len fun A outer s H vs Q E hgd hr hsp => ?_
  obtain ⟨t, h, q⟩ := hbody cdv A outer s H vs Q E hgd hr hsp
  exact ⟨t, h.nox, q⟩
theorem Fun.okGX (F : Fun K x qual st f fd) (S : FnScope N ps (defScope st)) (len : ∀ vs H Q E, sp vs H Q E → vs.length = ps.length)
    (hbody : ∀ (cdv : Value) (A : Around) (outer : List Env) (s : Shared) (H : Hp) (vs : List V) (Q : VK) (E : XK), (A.deeper (envOfC qual (defScope st) s.heap.objs.size f cdv)).guards = some [] → Room k (A.deeper (envOfC qual (defScope st) s.heap.objs.size f cdv)) → sp vs H Q E →
      ∃ t, PSs (cxOf (L2.CX P w) P w K mg base N qual (defScope st) f cdv A outer s H E) (defBody st) t ∧ t { nx := fun _ H' => Q .non H', rt := Q } (start N vs) H) : FnG P w K mg base (L2.CX P w) (k + 1) f fd ps sp := by
  obtain ⟨oc, od, kV, doc, pm, an, cdv, ct, osl, rfl, lk, hcd⟩ := F.ex
  exact fn_ofG lk hcd S len fun A outer s H vs Q E hgd hr hsp => hbody cdv A outer s H vs Q E hgd hr hsp
theorem FunD.okG {CX : CXT} {params : Arguments} {body : List Stmt} {scope : Scope} {dvs : List V} {kws : List (Str × V)} (F : FunD K x qual params body scope dvs kws f fd) (S : FnScope N ps scope) (len : ∀ vs H Q E, sp vs H Q E → vs.length = ps.length)
    (hbody : ∀ (cdv : Value) (A : Around) (outer : List Env) (s : Shared) (H : Hp) (vs : List V) (Q : VK) (E : XK), (A.deeper (envOfC qual scope s.heap.objs.size f cdv)).guards = some [] → Room k (A.deeper (envOfC qual scope s.heap.objs.size f cdv)) → sp vs H Q E →
      ∃ t, PSs (cxOf CX P w K mg base N qual scope f cdv A outer s H E) body t ∧ t { nx := fun _ H' => Q .non H', rt := Q } (start N vs) H) : FnG P w K mg base CX (k + 1) f fd ps sp := by
  obtain ⟨oc, od, dV, kV, doc, pm, an, cdv, ct, osl, rfl, lk, hcd, _, _⟩ := F.ex
  exact fn_ofG lk hcd S len fun A outer s H vs Q E hgd hr hsp => hbody cdv A outer s H vs Q E hgd hr hsp
end
structure OkG (P : Program) (w : World) (K : PySem.W.Frag) (mg : Str → Option Value) (base : Heap) (CX : CXT) (k : Nat) (x : Str) (ps : List Str) (sp : Sp) (f : Addr) (fd : FuncData) : Prop where
  ok : FnG P w K mg base CX k f fd ps sp
  m : mg x = some (.ref f)
  kp : PySem.W.keepIn K (.ref f) = true
section
variable {X : Cx} {CX : CXT} {k n : Nat} {f : Addr} {fd : FuncData} {ps ks : List Str} {sp : Sp} {E : L2.St → XK} {x : Str} {p pos : Pos} {e : Expr} {es : List Expr} {kws : List Keyword} {t tk : TA} {dvs : List V} {gV : List V → List V → List V}
theorem pass0At {X : Cx} (σ : L2.St) : PassesAt CX0 X σ E0 := fun _ _ _ _ _ _ h => h.elim
theorem passLAt {X : Cx} (σ : L2.St) : PassesAt (L2.CX X.prog X.w) X σ E0 := fun pins H s e s' I h => passL pins σ H s e s' I h
theorem run_g {pins : List (Addr × Obj)} {σ : L2.St} {H : Hp} {s : Shared} {Q : VK} {args : Args} {us : List Value} {vs : List V} {E : XK} (F : FnG X.prog X.w X.K X.mg X.base CX k f fd ps sp) (hgd : X.A.guards = some []) (hr : Room k X.A) (hb : BindsTo s fd args (ps.zip us)) (hx : PassesAt CX X σ E)
    (I : L2.Inv X pins σ H s) (r : Vals vs us) (h : sp vs H Q E) : codeAny (model X.prog X.w) X.A (.call (.ref f) args) (fun r s' => match r with | .ok (.ret u) => EP X pins σ Q u s' | .ok _ => False | .error e => X.xe e s') s := by
  refine codeAny_mono (F.run X.A X.stack s H args us vs Q E hgd hr I.env0 hb r h) fun r s' hq => ?_
  cases r with
  | error e => exact hx pins H s e s' I hq
  | ok fl =>
    cases fl with
    | ret u => exact I.after hq
    | next => exact False.elim hq
    | brk => exact False.elim hq
    | cont => exact False.elim hq
def tCallE (sp : Sp) (dvs : List V) (E : L2.St → XK) (t : TA) : TE := fun σ H Q => t σ H fun vs H1 => sp (vs ++ dvs) H1 Q (E σ)
def tCallKE (n m : Nat) (sp : Sp) (gV : List V → List V → List V) (E : L2.St → XK) (t tk : TA) : TE := fun σ H Q => t σ H fun vs H1 => tk σ H1 fun zs H2 => vs.length = n ∧ zs.length = m ∧ sp (gV vs zs) H2 Q (E σ)
theorem run_gw {pins : List (Addr × Obj)} {σ : L2.St} {H : Hp} {s : Shared} {Q : VK} {us ds : List Value} {vs : List V} {E : XK} (F : FnG X.prog X.w X.K X.mg X.base CX k f fd ps sp) (hgd : X.A.guards = some []) (hr : Room k X.A) (hb : Binds X.K fd ps ds) (hd : Vals dvs ds) (hx : PassesAt CX X σ E)
    (I : L2.Inv X pins σ H s) (r : Vals vs us) (h : sp (vs ++ dvs) H Q E) : wpAny (model X.prog X.w) X.A (call (.ref f) us) (EP X pins σ Q) X.xe s := by
  have r2 : Vals (vs ++ dvs) (us ++ ds) := r.append hd
  have hl : (us ++ ds).length = ps.length := by rw [← r2.length]; exact F.len _ _ _ _ h
  refine wpAny_call (codeAny_mono (run_g F hgd hr (hb s us I.kIn hl) hx I r2 h) fun r s' hq => ?_)
  cases r with
  | error e => exact hq
  | ok fl => cases fl <;> exact hq
theorem pe_c (O : OkG X.prog X.w X.K X.mg X.base CX k x ps sp f fd) (b : ∃ ds, Vals dvs ds ∧ Binds X.K fd ps ds) (hgd : X.A.guards = some []) (hr : Room k X.A) (hx : ∀ σ, PassesAt CX X σ (E σ)) (ha : PA X (e :: es) t) (hg : Gl X x := by rfl)
    (hdb : (x == ("__debug__" : Str)) = false := by decide) (he : starEach (e :: es) X.env = (false, eval e X.env) :: starEach es X.env := by rfl) (hpl : (backTo pos (starEach es X.env)).any (·.1) = false := by rfl) :
    PE X (.Call (.Name x p) (e :: es) [] pos) (tCallE sp dvs E t) := by
  obtain ⟨ds, hv, hb⟩ := b
  refine ⟨fun pins s σ H Q I h => ?_⟩
  refine wpAny_Call_Name_kw (ld_glob I hg O.m ?_ hdb)
  refine PySem.W.callWith_K (h₀ := X.base) I.ok.mod.kin O.kp (L2.thn (ha.run pos pins s σ H _ I h) fun us s1 hh => ?_) he hpl
  obtain ⟨vs, H1, I1, r, q⟩ := hh
  exact ⟨I1.kIn, run_gw O.ok hgd hr hb hv (hx σ) I1 r q⟩
theorem run_gk {pins : List (Addr × Obj)} {σ : L2.St} {H : Hp} {s : Shared} {Q : VK} {us ws : List Value} {vs zs : List V} {E : XK} (F : FnG X.prog X.w X.K X.mg X.base CX k f fd ps sp) (hgd : X.A.guards = some []) (hr : Room k X.A) (b : KB X.K fd ps n ks gV) (hx : PassesAt CX X σ E)
    (I : L2.Inv X pins σ H s) (r : Vals vs us) (rz : Vals zs ws) (l1 : vs.length = n) (l2 : zs.length = ks.length) (h : sp (gV vs zs) H Q E) : wpAny (model X.prog X.w) X.A (call (.ref f) us (ks.zip ws)) (EP X pins σ Q) X.xe s := by
  obtain ⟨g, hb⟩ := b
  refine wpAny_call (codeAny_mono (run_g F hgd hr (hb.to s us ws I.kIn (r.length.symm.trans l1) (rz.length.symm.trans l2)) hx I (hb.rel r rz) h) fun r s' hq => ?_)
  cases r with
  | error e => exact hq
  | ok fl => cases fl <;> exact hq
theorem pe_ck (O : OkG X.prog X.w X.K X.mg X.base CX k x ps sp f fd) (b : KB X.K fd ps n ks gV) (hgd : X.A.guards = some []) (hr : Room k X.A) (hx : ∀ σ, PassesAt CX X σ (E σ))
    (ha : PA X (e :: es) t) (hkw : PK X kws tk) (hg : Gl X x := by rfl) (hall : (backToKw pos (keywordEach kws X.env)).all (·.1.isSome) = true := by rfl) (hks : (backToKw pos (keywordEach kws X.env)).filterMap (·.1) = ks := by rfl)
    (hdb : (x == ("__debug__" : Str)) = false := by decide) (he : starEach (e :: es) X.env = (false, eval e X.env) :: starEach es X.env := by rfl)
    (hpl : ((backTo pos (starEach (e :: es) X.env)).any (·.1) || (backToKw pos (keywordEach kws X.env)).any (·.1.isNone)) = false := by rfl) :
    PE X (.Call (.Name x p) (e :: es) kws pos) (tCallKE n ks.length sp gV E t tk) := by
  refine ⟨fun pins s σ H Q I h => ?_⟩
  refine wpAny_Call_Name_kw (ld_glob I hg O.m ?_ hdb)
  refine PySem.W.callWith_KW (h₀ := X.base) I.ok.mod.kin O.kp hall (L2.thn (ha.run pos pins s σ H _ I h) fun us s1 hh => ?_) hpl he
  obtain ⟨vs, H1, I1, r, q⟩ := hh
  refine L2.thn (hkw.run pos pins s1 σ H1 _ I1 q) fun ws s2 hh2 => ?_
  obtain ⟨zs, H2, I2, rz, l1, l2, q2⟩ := hh2
  refine ⟨I2.kIn, ?_⟩
  rw [hks]
  exact run_gk O.ok hgd hr b (hx σ) I2 r rz l1 l2 q2
theorem pe_ck0 (O : OkG X.prog X.w X.K X.mg X.base CX k x ps sp f fd) (b : KB X.K fd ps 0 ks gV) (hgd : X.A.guards = some []) (hr : Room k X.A) (hx : ∀ σ, PassesAt CX X σ (E σ))
    (hkw : PK X kws tk) (hg : Gl X x := by rfl) (hall : (backToKw pos (keywordEach kws X.env)).all (·.1.isSome) = true := by rfl) (hks : (backToKw pos (keywordEach kws X.env)).filterMap (·.1) = ks := by rfl)
    (hdb : (x == ("__debug__" : Str)) = false := by decide)
    (hpl : ((backTo pos (starEach [] X.env)).any (·.1) || (backToKw pos (keywordEach kws X.env)).any (·.1.isNone)) = false := by rfl) :
    PE X (.Call (.Name x p) [] kws pos) (tCallKE 0 ks.length sp gV E tNil tk) := by
  refine ⟨fun pins s σ H Q I h => ?_⟩
  refine wpAny_Call_Name_kw (ld_glob I hg O.m ?_ hdb)
  refine PySem.W.callWith_KW0 (h₀ := X.base) I.ok.mod.kin O.kp hall ?_ hpl
  refine L2.thn (hkw.run pos pins s σ H _ I h) fun ws s2 hh2 => ?_
  obtain ⟨zs, H2, I2, rz, l1, l2, q2⟩ := hh2
  refine ⟨I2.kIn, ?_⟩
  rw [hks]
  exact run_gk (us := []) (vs := []) O.ok hgd hr b (hx σ) I2 .nil rz l1 l2 q2
end
def rReprD (K : PySem.W.Frag) : List V → Hp → VK → Prop := fun xs H Q => ∃ (a : Addr) (d : PyData), xs = [.ref a] ∧ Dp K H (.ref a) d ∧ PyData.showable d = true ∧ SeqAt.shaped d = true ∧ d.shown.length ≤ sizeLine ∧ Q (.str d.shown) H
theorem call_reprD {X : Cx} (K : PySem.W.Frag) (hgd : X.A.guards = some []) (hu : X.A.units + 130 < cLine) (hK : X.K = K := by rfl) : CallR X (.builtin "repr") (rReprD K) := by
  subst hK
  intro pins s σ H xs us Q I r h
  obtain ⟨a, d, rfl, dp, sh, shp, hz, q⟩ := h
  obtain ⟨u, rfl, rx⟩ := vals1 r
  cases (show u = Value.ref a from rx)
  obtain ⟨as, rd⟩ := dp.reads I d _ _ rfl
  have hd := SeqAt.depth_of_shaped shp
  have hnd : d.hasDict = false := PyData.hasDict_of_canLay d (SeqAt.canLay_of_shaped shp)
  exact repr_of_reads' rd sh (fun z => by rw [hnd] at z; cases z) hgd (by omega) (fun _ _ z => z) (fun h' t tk keep => ⟨.str d.shown, H, I.kept keep, ⟨_, rfl⟩, q⟩) hz
end Np
set_option Elab.async false
set_option linter.all false
set_option maxRecDepth 100000
set_option maxHeartbeats 4000000
namespace Np
open PySem PySem.Spec PyProof.Rows L2
theorem op_mulS {X : Cx} : OpR X (binaryOp .Mult) (fun x y H Q => ∃ (z : Str) (n : Int), x = .str z ∧ y = .int n ∧ MulOk z n ∧ Q (.str (Txt.mul z n)) H) := by
  intro pins s σ H x y v u Q I rx ry h
  obtain ⟨z, n, rfl, rfl, ok, q⟩ := h
  obtain ⟨t, rfl⟩ := rx
  obtain ⟨t', rfl⟩ := ry
  exact SB.mul ok fun t'' k => ⟨.str (Txt.mul z n), H, I.tok k, ⟨_, rfl⟩, q⟩
theorem mulOk_of {z : Str} {n : Int} (h1 : n < 2 ^ 30) (h0 : -(2 ^ 30) < n) (hz : z.length * n.toNat ≤ 16777216) : MulOk z n := by
  refine ⟨?_, fun hn _ => ?_, fun _ _ => ?_⟩
  · rw [decide_eq_false (by omega), decide_eq_false (by omega)] <;> rfl
  · obtain ⟨m, rfl⟩ := Int.eq_ofNat_of_zero_le (show 0 ≤ n by omega)
    have hm : 0 < (m : Int) := by omega
    intro hgt
    have hz' : z.length * m ≤ 16777216 := hz
    have h2 : ((2 ^ 63 - 1 : Int)) / (m : Int) < (z.length : Int) := hgt
    have h3 := (Int.ediv_lt_iff_lt_mul hm).mp h2
    have h4 : ((z.length * m : Nat) : Int) ≤ ((16777216 : Nat) : Int) := Int.ofNat_le.mpr hz'
    rw [Int.natCast_mul] at h4
    omega
  · have hz' : z.length * n.toNat ≤ sizeLine := by rw [sizeLine_eq]; exact hz
    exact decide_eq_false (Nat.not_lt.mpr hz')
theorem foldl_reps (a : Array Nat) : ∀ (k : Nat) (b : Array Nat), ((List.replicate k a).foldl (· ++ ·) b).toList = b.toList ++ (List.replicate k a.toList).flatten
  | 0, b => by simp
  | k + 1, b => by
    rw [List.replicate_succ, List.foldl_cons, foldl_reps a k (b ++ a), List.replicate_succ, List.flatten_cons, Array.toList_append, List.append_assoc]
theorem toList_mul (z : Str) (n : Nat) : (Txt.mul z n).cps.toList = (List.replicate n z.cps.toList).flatten := by
  unfold Txt.mul
  by_cases h1 : (n : Int) < 1
  · have e : n = 0 := by omega
    subst e
    rw [if_pos h1] <;> rfl
  · rw [if_neg h1]
    by_cases h2 : ((n : Int) == 1 || z.length == 0) = true
    · rw [if_pos h2]
      rcases Bool.or_eq_true_iff.mp h2 with q | q
      · have e : n = 1 := by have := eq_of_beq q; omega
        subst e
        simp
      · have e : z.length = 0 := eq_of_beq q
        have e2 : z.cps.toList = [] := List.eq_nil_of_length_eq_zero (by rw [Array.length_toList]; exact e)
        rw [e2]
        simp
    · rw [if_neg h2]
      show ((List.replicate (n : Int).toNat z.cps).foldl (· ++ ·) #[]).toList = _
      rw [foldl_reps, Int.toNat_natCast] <;> rfl
theorem Tx.mul {m : Nat} {z : Str} (h : Tx m z) (n : Nat) : Tx (n * m) (Txt.mul z n) := by
  refine ⟨?_, fun c hc => ?_⟩
  · show (Txt.mul z n).cps.size ≤ _
    rw [← Array.length_toList, toList_mul, List.length_flatten, List.map_replicate, List.sum_replicate_nat, Array.length_toList]
    exact Nat.mul_le_mul_left n h.len
  · rw [toList_mul] at hc
    obtain ⟨l, hl, hcl⟩ := List.mem_flatten.mp hc
    rw [List.eq_of_mem_replicate hl] at hcl
    exact h.ok c hcl
def spInit (C : Addr) (names : List Str) : Sp := fun vs H Q _ => ∃ (a : Addr) (ws : List V), vs = .ref a :: ws ∧ ws.length = names.length ∧ H a = some (exo a C none) ∧
  ∀ d H', H d = none → d ≠ a → H' a = some (exo a C (some d)) → H' d = some (exd d (names.zip ws).reverse) → (∀ b, b ≠ a → b ≠ d → H' b = H b) → Q .non H'
theorem mk_tail {C : Addr} {names : List Str} {vs : List V} {H1 : Hp} {Q : XK} (hl : vs.length = names.length) (hs : vs.length ≤ 1000) (k : ∀ d, H1 d = none → Q (.ref C) (some d) (upd H1 d (.xd (names.zip vs).reverse))) :
    vs.length ≤ 1000 ∧ ∀ a, H1 a = none → spInit C names (.ref a :: (vs ++ [])) (upd H1 a (exo a C none))
      (fun v H2 => v = .non ∧ ∃ (d : Addr) (fs : List (Str × V)), H2 a = some (exo a C (some d)) ∧ H2 d = some (exd d fs) ∧ H1 d = none ∧ Q (.ref C) (some d) (upd (del H2 a) d (.xd fs))) (fun _ _ _ => False) := by
  refine ⟨hs, fun a na => ⟨a, vs, by rw [List.append_nil], hl, upd_same, fun d H' nd ne h1 h2 hb => ⟨rfl, d, _, h1, h2, ?_, ?_⟩⟩⟩
  · rw [upd_ne ne] at nd
    exact nd
  · have e : upd (del H' a) d (.xd (names.zip vs).reverse) = upd H1 d (.xd (names.zip vs).reverse) := by
      funext b
      by_cases hbd : b = d
      · rw [hbd, upd_same, upd_same]
      · rw [upd_ne hbd, upd_ne hbd]
        by_cases hba : b = a
        · rw [hba, del_same, na]
        · rw [del_ne hba, hb b hba hbd, upd_ne hba]
    rw [e]
    rw [upd_ne ne] at nd
    exact k d nd
def RaiseC (P : Program) (w : World) (K : PySem.W.Frag) (mg : Str → Option Value) (base : Heap) (C : Addr) (x : Str) (ps names : List Str) : Prop := ∃ (fI : Addr) (fd : FuncData), PySem.W.findIn K (.ref C) "__init__" = some (some (.ref fI)) ∧ PySem.W.typeIn K (.ref fI) = some (.type "function") ∧
  FnOk P w K mg base CX0 1 fI fd ps (spInit C names) ∧ Binds K fd ps []
def spL (K : PySem.W.Frag) : Sp := fun vs H Q _ => ∃ (a : Addr) (ns : List Int), vs = [.ref a] ∧ SqL K H a (ns.map V.int) ∧ ns.length ≤ 63 ∧ ∀ H', Q (.bl true) H'
theorem un130 {k : Nat} {A : Around} (hr : Room k A) : A.units + 130 < cLine := by have := hr.un; omega
end Np
set_option Elab.async false
set_option linter.all false
set_option maxRecDepth 100000
set_option maxHeartbeats 4000000
namespace Np
open PySem PySem.Spec PyProof.Rows L2
inductive DD where
  | non | bl (b : Bool) | int (i : Int) | str (x : Str) | lst (xs : List DD) | tup (xs : List DD) | dic (kvs : List (Key × DD)) | obj (C : Str) (fs : List (Str × DD)) | exc (C : Str) (fs : List (Str × DD)) | raw (a : Addr) | ptr (k : Nat) | tux (xs : List DD)
abbrev CM := Str → Addr
/-- an exception's dict, if it has one -/
def XdAt (H : Hp) (d : Option Addr) (xs : List (Str × V)) : Prop := match d with
  | some d => H d = some (.xd xs)
  | none => xs = []
theorem XdAt.mono {H H' : Hp} {d : Option Addr} {xs : List (Str × V)} (h : XdAt H d xs) (e : Same H H') : XdAt H' d xs := by
  cases d with
  | none => exact h
  | some d => exact e _ _ h
/-- the heap of what stays, and where the things stand that may change -/
structure GH where
  hp : Hp
  ads : List Addr
instance : CoeFun GH (fun _ => Hp) := ⟨GH.hp⟩
instance : Coe GH Hp := ⟨GH.hp⟩
abbrev GH.upd (G : GH) (p : Addr) (o : HO) : GH := ⟨L2.upd G.hp p o, G.ads⟩
structure GS (G G' : GH) : Prop where
  s : Same G.hp G'.hp
  a : G.ads <+: G'.ads
theorem GS.refl (G : GH) : GS G G := ⟨Same.refl _, List.prefix_rfl⟩
theorem GS.trans {G G1 G2 : GH} (e : GS G G1) (e' : GS G1 G2) : GS G G2 := ⟨e.s.trans e'.s, e.a.trans e'.a⟩
theorem GS.free {G G' : GH} (e : GS G G') {l : Addr} (h : G'.hp l = none) : G.hp l = none := e.s.free h
theorem GS.seq {K : PySem.W.Frag} {G G' : GH} {a : Addr} {xs : List V} (e : GS G G') (h : SqL K G.hp a xs) : SqL K G'.hp a xs := e.s.seq h
instance {G G' : GH} : CoeFun (GS G G') (fun _ => ∀ b o, G.hp b = some o → G'.hp b = some o) := ⟨fun h => h.s⟩
theorem prefix_get {α : Type} {l l' : List α} {k : Nat} {a : α} (h : l <+: l') (e : l[k]? = some a) : l'[k]? = some a := by
  obtain ⟨t, rfl⟩ := h
  rw [List.getElem?_append_left (List.getElem?_eq_some_iff.mp e).1]
  exact e
theorem GS.new {G : GH} {p : Addr} {o : HO} (h : G.hp p = none) : GS G (G.upd p o) := ⟨same_new h, List.prefix_rfl⟩
mutual
inductive Rp (K : PySem.W.Frag) (cm : CM) (H : GH) : V → DD → Prop
  | non : Rp K cm H .non .non
  | bl (b : Bool) : Rp K cm H (.bl b) (.bl b)
  | int (i : Int) : Rp K cm H (.int i) (.int i)
  | str (x : Str) : Rp K cm H (.str x) (.str x)
  | lst {a : Addr} {xs : List V} {ds : List DD} : H a = some (.lst xs) → RpA K cm H xs ds → Rp K cm H (.ref a) (.lst ds)
  | tup {a : Addr} {xs : List V} {ds : List DD} : H a = some (.tup xs) → RpA K cm H xs ds → Rp K cm H (.ref a) (.tup ds)
  | dic {a : Addr} {xs : List (Key × V)} {ds : List (Key × DD)} : H a = some (.dK xs) → RpK K cm H xs ds → Rp K cm H (.ref a) (.dic ds)
  | obj {a dx : Addr} {C : Str} {xs : List (Str × V)} {ds : List (Str × DD)} : H a = some (.ins (cm C) dx xs) → RpF K cm H xs ds → Rp K cm H (.ref a) (.obj C ds)
  | exc {a : Addr} {d : Option Addr} {oe : Obj} {vs : Array Value} {C : Str} {xs : List (Str × V)} {ds : List (Str × DD)} : H a = some (exk a oe) → Zc (.ref (cm C)) d oe → oe.data = .fields vs → XdAt H d xs → RpF K cm H xs ds → Rp K cm H (.ref a) (.exc C ds)
  | raw (a : Addr) : Rp K cm H (.ref a) (.raw a)
  | ptr {a : Addr} {k : Nat} : H.ads[k]? = some a → Rp K cm H (.ref a) (.ptr k)
  | tux {a : Addr} {o : Obj} {xs : List V} {ds : List DD} : H a = some (.frz o (.tup xs)) → o.dict = none → RpA K cm H xs ds → Rp K cm H (.ref a) (.tux ds)
inductive RpA (K : PySem.W.Frag) (cm : CM) (H : GH) : List V → List DD → Prop
  | nil : RpA K cm H [] []
  | cons {v : V} {vs : List V} {d : DD} {ds : List DD} : Rp K cm H v d → RpA K cm H vs ds → RpA K cm H (v :: vs) (d :: ds)
inductive RpK (K : PySem.W.Frag) (cm : CM) (H : GH) : List (Key × V) → List (Key × DD) → Prop
  | nil : RpK K cm H [] []
  | cons {k : Key} {v : V} {vs : List (Key × V)} {d : DD} {ds : List (Key × DD)} : Rp K cm H v d → RpK K cm H vs ds → RpK K cm H ((k, v) :: vs) ((k, d) :: ds)
inductive RpF (K : PySem.W.Frag) (cm : CM) (H : GH) : List (Str × V) → List (Str × DD) → Prop
  | nil : RpF K cm H [] []
  | cons {k : Str} {v : V} {vs : List (Str × V)} {d : DD} {ds : List (Str × DD)} : Rp K cm H v d → RpF K cm H vs ds → RpF K cm H ((k, v) :: vs) ((k, d) :: ds)
end
theorem Same.tupq {K : PySem.W.Frag} {H H' : Hp} {a : Addr} {xs : List V} (e : Same H H') (h : SqT K H a xs) : SqT K H' a xs := by
  rcases h with (h | ⟨o, h⟩) | h
  · exact .inl (.inl (e _ _ h))
  · exact .inl (.inr ⟨o, e _ _ h⟩)
  · exact .inr h
section
variable {K : PySem.W.Frag} {cm : CM} {H H' : GH}
mutual
theorem Rp.mono (e : GS H H') : ∀ {v : V} {d : DD}, Rp K cm H v d → Rp K cm H' v d
  | _, _, .non => .non
  | _, _, .bl b => .bl b
  | _, _, .int i => .int i
  | _, _, .str x => .str x
  | _, _, .lst h r => .lst (e.s _ _ h) (RpA.mono e r)
  | _, _, .tup h r => .tup (e.s _ _ h) (RpA.mono e r)
  | _, _, .dic h r => .dic (e.s _ _ h) (RpK.mono e r)
  | _, _, .obj h r => .obj (e.s _ _ h) (RpF.mono e r)
  | _, _, .exc h z q h2 r => .exc (e.s _ _ h) z q (h2.mono e.s) (RpF.mono e r)
  | _, _, .raw a => .raw a
  | _, _, .ptr h => .ptr (prefix_get e.a h)
  | _, _, .tux h n r => .tux (e.s _ _ h) n (RpA.mono e r)
theorem RpA.mono (e : GS H H') : ∀ {v : List V} {d : List DD}, RpA K cm H v d → RpA K cm H' v d
  | _, _, .nil => .nil
  | _, _, .cons h r => .cons (Rp.mono e h) (RpA.mono e r)
theorem RpK.mono (e : GS H H') : ∀ {v : List (Key × V)} {d : List (Key × DD)}, RpK K cm H v d → RpK K cm H' v d
  | _, _, .nil => .nil
  | _, _, .cons h r => .cons (Rp.mono e h) (RpK.mono e r)
theorem RpF.mono (e : GS H H') : ∀ {v : List (Str × V)} {d : List (Str × DD)}, RpF K cm H v d → RpF K cm H' v d
  | _, _, .nil => .nil
  | _, _, .cons h r => .cons (Rp.mono e h) (RpF.mono e r)
end
theorem RpA.length : ∀ {v : List V} {d : List DD}, RpA K cm H v d → v.length = d.length
  | _, _, .nil => rfl
  | _, _, .cons _ r => congrArg Nat.succ (RpA.length r)
theorem RpA.append : ∀ {v v' : List V} {d d' : List DD}, RpA K cm H v d → RpA K cm H v' d' → RpA K cm H (v ++ v') (d ++ d')
  | _, _, _, _, .nil, s => s
  | _, _, _, _, .cons h r, s => .cons h (RpA.append r s)
theorem RpA.take : ∀ (n : Nat) {v : List V} {d : List DD}, RpA K cm H v d → RpA K cm H (v.take n) (d.take n)
  | 0, _, _, _ => .nil
  | _ + 1, _, _, .nil => .nil
  | n + 1, _, _, .cons h r => .cons h (RpA.take n r)
theorem RpA.drop : ∀ (n : Nat) {v : List V} {d : List DD}, RpA K cm H v d → RpA K cm H (v.drop n) (d.drop n)
  | 0, _, _, h => h
  | _ + 1, _, _, .nil => .nil
  | n + 1, _, _, .cons _ r => RpA.drop n r
theorem RpA.get : ∀ {n : Nat} {v : List V} {d : List DD} {x : DD}, RpA K cm H v d → d[n]? = some x → ∃ y, v[n]? = some y ∧ Rp K cm H y x
  | _, _, _, _, .nil, e => by simp at e
  | 0, _, _, _, .cons h _, e => by simp at e; subst e; exact ⟨_, rfl, h⟩
  | n + 1, _, _, _, .cons _ r, e => by
    obtain ⟨y, a, b⟩ := RpA.get (n := n) r (by simpa using e)
    exact ⟨y, by simpa using a, b⟩
theorem RpA.get' : ∀ {n : Nat} {v : List V} {d : List DD} {y : V}, RpA K cm H v d → v[n]? = some y → ∃ x, d[n]? = some x ∧ Rp K cm H y x
  | _, _, _, _, .nil, e => by simp at e
  | 0, _, _, _, .cons h _, e => by simp at e; subst e; exact ⟨_, rfl, h⟩
  | n + 1, _, _, _, .cons _ r, e => by
    obtain ⟨y, a, b⟩ := RpA.get' (n := n) r (by simpa using e)
    exact ⟨y, by simpa using a, b⟩
theorem RpA.set {y : V} {x : DD} (h : Rp K cm H y x) : ∀ (n : Nat) {v : List V} {d : List DD}, RpA K cm H v d → RpA K cm H (v.set n y) (d.set n x)
  | _, _, _, .nil => .nil
  | 0, _, _, .cons _ r => .cons h r
  | n + 1, _, _, .cons a r => .cons a (RpA.set h n r)
theorem RpA.reverse : ∀ {v : List V} {d : List DD}, RpA K cm H v d → RpA K cm H v.reverse d.reverse
  | _, _, .nil => .nil
  | _, _, .cons h r => by
    rw [List.reverse_cons, List.reverse_cons]
    exact (RpA.reverse r).append (.cons h .nil)
theorem RpA.ints : ∀ ns : List Int, RpA K cm H (ns.map V.int) (ns.map DD.int)
  | [] => .nil
  | n :: ns => .cons (.int n) (RpA.ints ns)
theorem RpA.strs : ∀ ns : List Str, RpA K cm H (ns.map V.str) (ns.map DD.str)
  | [] => .nil
  | n :: ns => .cons (.str n) (RpA.strs ns)
theorem Rp.int_of {i : Int} {v : V} (h : Rp K cm H v (.int i)) : v = .int i := by cases h; rfl
theorem Rp.str_of {i : Str} {v : V} (h : Rp K cm H v (.str i)) : v = .str i := by cases h; rfl
theorem Rp.bl_of {i : Bool} {v : V} (h : Rp K cm H v (.bl i)) : v = .bl i := by cases h; rfl
theorem Rp.non_of {v : V} (h : Rp K cm H v .non) : v = .non := by cases h; rfl
theorem RpA.ints_of : ∀ {ns : List Int} {v : List V}, RpA K cm H v (ns.map DD.int) → v = ns.map V.int
  | [], _, .nil => rfl
  | n :: ns, _, .cons h r => by rw [h.int_of, RpA.ints_of r] <;> rfl
theorem RpA.strs_of : ∀ {ns : List Str} {v : List V}, RpA K cm H v (ns.map DD.str) → v = ns.map V.str
  | [], _, .nil => rfl
  | n :: ns, _, .cons h r => by rw [h.str_of, RpA.strs_of r] <;> rfl
end
/-- a thing that may change: a list, a dict, an object; one that is gone -/
inductive Nd where
  | lst (xs : List DD) | dK (kvs : List (Key × DD)) | obj (C : Str) (fs : List (Str × DD)) | gone | fz (d : DD)
structure Tau where
  cells : List Int
  at' : Int
  left : Int
  st : List Nd := []
abbrev TS' := Option Tau
structure Ex where
  cls : Str
  fs : List (Str × DD)
inductive R (α : Type) where
  | ok (a : α) (τ : TS') | ex (x : Ex) (τ : TS') | no
def R.bind {α β : Type} : R α → (α → TS' → R β) → R β
  | .ok a τ, f => f a τ
  | .ex x τ, _ => .ex x τ
  | .no, _ => .no
def R.of {α : Type} (τ : TS') : Option α → R α
  | some a => .ok a τ
  | none => .no
@[simp] theorem R.bind_ok {α β : Type} (a : α) (τ : TS') (f : α → TS' → R β) : (R.ok a τ).bind f = f a τ := id rfl
@[simp] theorem R.bind_ex {α β : Type} (a : Ex) (τ : TS') (f : α → TS' → R β) : (R.ex a τ).bind f = .ex a τ := id rfl
@[simp] theorem R.bind_no {α β : Type} (f : α → TS' → R β) : (R.no).bind f = .no := id rfl
@[simp] theorem R.of_some {α : Type} (τ : TS') (a : α) : R.of τ (some a) = .ok a τ := id rfl
@[simp] theorem R.of_none {α : Type} (τ : TS') : (R.of τ none : R α) = .no := id rfl
/-- what a node of an owned tree is -/
inductive Kd where
  | lst | dK (ks : List Key) | obj (C : Str) (ns : List Str)
/-- an owned tree: its leaves stay as they are -/
inductive OT where
  | fr (d : DD) | nd (k : Kd) (ts : List OT)
inductive OC where
  | lst (xs : List DD) | dK (kvs : List (Key × DD)) | tr (k : Kd) (ts : List OT)
inductive PV where
  | fr (d : DD) | ow (c : OC) | tape | scr (ns : List Int) | fn (x : Str) | thk
abbrev PEnv := List (Option PV)
/-- what is fixed: the constants, the classes, how a tape lies -/
structure Wp where
  K : PySem.W.Frag
  cm : CM
  tk : Tau → Addr → HO
  T : List (Addr × Str) := []
  th : Option (Addr × Addr × Str × GH) := none
abbrev Wp.rp (W : Wp) := Rp W.K W.cm
def NodeAt (W : Wp) (H : Hp) (a : Addr) (vs : List V) : Kd → Prop
  | .lst => H a = some (.lst vs)
  | .dK ks => ks.length = vs.length ∧ H a = some (.dK (ks.zip vs))
  | .obj C ns => ns.length = vs.length ∧ ∃ dx, H a = some (.ins (W.cm C) dx (ns.zip vs))
mutual
/-- a value stands for an owned tree; F: the addresses of its nodes -/
inductive Ow (W : Wp) (G : GH) (H : Hp) : V → OT → List Addr → Prop
  | fr {v : V} {d : DD} : Rp W.K W.cm G v d → Ow W G H v (.fr d) []
  | nd {a : Addr} {k : Kd} {vs : List V} {ts : List OT} {F : List Addr} : NodeAt W H a vs k → OwA W G H vs ts F → a ∉ F → Ow W G H (.ref a) (.nd k ts) (a :: F)
inductive OwA (W : Wp) (G : GH) (H : Hp) : List V → List OT → List Addr → Prop
  | nil : OwA W G H [] [] []
  | cons {v : V} {t : OT} {vs : List V} {ts : List OT} {F F' : List Addr} : Ow W G H v t F → OwA W G H vs ts F' → (∀ p ∈ F, p ∉ F') → OwA W G H (v :: vs) (t :: ts) (F ++ F')
end
def OwR (W : Wp) (G : GH) (H : Hp) (a : Addr) : OC → List Addr → Prop
  | .lst xs, F => F = [a] ∧ ∃ vs, H a = some (.lst vs) ∧ RpA W.K W.cm G vs xs
  | .dK kvs, F => F = [a] ∧ ∃ vs, H a = some (.dK vs) ∧ RpK W.K W.cm G vs kvs
  | .tr k ts, F => Ow W G H (.ref a) (.nd k ts) F
section
variable {W : Wp} {G G' : GH} {H H' : Hp}
theorem NodeAt.keep {a : Addr} {vs : List V} {k : Kd} (h : NodeAt W H a vs k) (e : ∀ o, H a = some o → H' a = some o) : NodeAt W H' a vs k := by
  cases k with
  | lst => exact e _ h
  | dK ks => exact ⟨h.1, e _ h.2⟩
  | obj C ns => obtain ⟨l, dx, h⟩ := h; exact ⟨l, dx, e _ h⟩
theorem NodeAt.at {a : Addr} {vs : List V} {k : Kd} (h : NodeAt W H a vs k) : H a ≠ none := by
  cases k with
  | lst => rw [show H a = _ from h]; simp
  | dK ks => rw [h.2]; simp
  | obj C ns => obtain ⟨l, dx, h⟩ := h; rw [h]; simp
theorem zip_inj {α β : Type} : ∀ {ks : List α} {vs us : List β}, ks.length = vs.length → ks.length = us.length → ks.zip vs = ks.zip us → vs = us
  | [], [], [], _, _, _ => rfl
  | k :: ks, v :: vs, u :: us, h1, h2, e => by
    simp only [List.zip_cons_cons, List.cons.injEq, Prod.mk.injEq, true_and] at e
    rw [e.1, zip_inj (Nat.succ.inj h1) (Nat.succ.inj h2) e.2]
theorem NodeAt.uniq {a : Addr} {vs us : List V} {k : Kd} (h : NodeAt W H a vs k) (h' : NodeAt W H a us k) : vs = us := by
  cases k with
  | lst => have h : H a = _ := h; have h' : H a = _ := h'; rw [h] at h'; cases h'; rfl
  | dK ks =>
    have e := h.2.symm.trans h'.2
    simp only [Option.some.injEq, HO.dK.injEq] at e
    exact zip_inj h.1 h'.1 e
  | obj C ns =>
    obtain ⟨l, dx, h⟩ := h
    obtain ⟨l', dx', h'⟩ := h'
    have e := h.symm.trans h'
    simp only [Option.some.injEq, HO.ins.injEq] at e
    exact zip_inj l l' e.2.2
mutual
theorem Ow.keep : ∀ {v : V} {t : OT} {F : List Addr}, Ow W G H v t F → GS G G' → (∀ p ∈ F, ∀ o, H p = some o → H' p = some o) → Ow W G' H' v t F
  | _, _, _, .fr r, g, _ => .fr (Rp.mono g r)
  | _, _, _, .nd h r n, g, e => .nd (h.keep (e _ List.mem_cons_self)) (OwA.keep r g fun p hp => e p (List.mem_cons_of_mem _ hp)) n
theorem OwA.keep : ∀ {v : List V} {t : List OT} {F : List Addr}, OwA W G H v t F → GS G G' → (∀ p ∈ F, ∀ o, H p = some o → H' p = some o) → OwA W G' H' v t F
  | _, _, _, .nil, _, _ => .nil
  | _, _, _, .cons h r n, g, e => .cons (Ow.keep h g fun p hp => e p (List.mem_append_left _ hp)) (OwA.keep r g fun p hp => e p (List.mem_append_right _ hp)) n
end
mutual
theorem Ow.at : ∀ {v : V} {t : OT} {F : List Addr}, Ow W G H v t F → ∀ p ∈ F, H p ≠ none
  | _, _, _, .fr r, p, hp => by cases hp
  | _, _, _, .nd h r n, p, hp => by
    rcases List.mem_cons.mp hp with rfl | hp
    · exact h.at
    · exact OwA.at r p hp
theorem OwA.at : ∀ {v : List V} {t : List OT} {F : List Addr}, OwA W G H v t F → ∀ p ∈ F, H p ≠ none
  | _, _, _, .nil, p, hp => by cases hp
  | _, _, _, .cons h r n, p, hp => by
    rcases List.mem_append.mp hp with hp | hp
    · exact Ow.at h p hp
    · exact OwA.at r p hp
end
mutual
theorem Ow.uniq : ∀ {v : V} {t : OT} {F F' : List Addr}, Ow W G H v t F → Ow W G' H v t F' → F = F'
  | _, _, _, _, .fr _, .fr _ => rfl
  | _, _, _, _, .nd h r _, .nd h' r' _ => by
    cases h.uniq h'
    rw [OwA.uniq r r']
theorem OwA.uniq : ∀ {v : List V} {t : List OT} {F F' : List Addr}, OwA W G H v t F → OwA W G' H v t F' → F = F'
  | _, _, _, _, .nil, .nil => rfl
  | _, _, _, _, .cons h r _, .cons h' r' _ => by rw [Ow.uniq h h', OwA.uniq r r']
end
theorem OwR.keep {a : Addr} {c : OC} {F : List Addr} (h : OwR W G H a c F) (g : GS G G') (k : ∀ p ∈ F, ∀ o, H p = some o → H' p = some o) : OwR W G' H' a c F := by
  cases c with
  | lst xs => obtain ⟨rfl, vs, e, r⟩ := h; exact ⟨rfl, vs, k a (by simp) _ e, r.mono g⟩
  | dK xs => obtain ⟨rfl, vs, e, r⟩ := h; exact ⟨rfl, vs, k a (by simp) _ e, r.mono g⟩
  | tr q ts => exact Ow.keep (show Ow W G H _ _ _ from h) g k
theorem OwR.at {a : Addr} {c : OC} {F : List Addr} (h : OwR W G H a c F) : ∀ p ∈ F, H p ≠ none := by
  cases c with
  | lst xs => obtain ⟨rfl, vs, e, r⟩ := h; intro p hp; rw [List.mem_singleton.mp hp, e]; simp
  | dK xs => obtain ⟨rfl, vs, e, r⟩ := h; intro p hp; rw [List.mem_singleton.mp hp, e]; simp
  | tr q ts => exact Ow.at (show Ow W G H _ _ _ from h)
theorem OwR.mem {a : Addr} {c : OC} {F : List Addr} (h : OwR W G H a c F) : a ∈ F := by
  cases c with
  | lst xs => obtain ⟨rfl, _⟩ := h; simp
  | dK xs => obtain ⟨rfl, _⟩ := h; simp
  | tr q ts => cases (show Ow W G H _ _ _ from h) with | nd _ _ _ => exact List.mem_cons_self
theorem OwR.uniq {a : Addr} {c : OC} {F F' : List Addr} (h : OwR W G H a c F) (h' : OwR W G' H a c F') : F = F' := by
  cases c with
  | lst xs => rw [h.1, h'.1]
  | dK xs => rw [h.1, h'.1]
  | tr q ts => exact Ow.uniq (show Ow W G H _ _ _ from h) (show Ow W G' H _ _ _ from h')
end
/-- neither a table nor told by what is true of it -/
def _root_.PySem.L2.HO.nt : HO → Bool
  | .tbl _ => false
  | .ext _ => false
  | _ => true
def _root_.PySem.L2.HO.tb : HO → Bool
  | .tbl _ => true
  | _ => false
theorem nt_tb {o : HO} (h : o.nt = true) : o.tb = false := by cases o <;> first | rfl | cases h
def NT (H : Hp) (p : Addr) : Prop := ∃ o, H p = some o ∧ o.nt = true
theorem NodeAt.nt {W : Wp} {H : Hp} {a : Addr} {vs : List V} {k : Kd} (h : NodeAt W H a vs k) : NT H a := by
  cases k with
  | lst => exact ⟨_, h, rfl⟩
  | dK ks => exact ⟨_, h.2, rfl⟩
  | obj C ns => obtain ⟨l, dx, h⟩ := h; exact ⟨_, h, rfl⟩
mutual
theorem Ow.nt {W : Wp} {G : GH} {H : Hp} : ∀ {v : V} {t : OT} {F : List Addr}, Ow W G H v t F → ∀ p ∈ F, NT H p
  | _, _, _, .fr r, p, hp => by cases hp
  | _, _, _, .nd h r n, p, hp => by
    rcases List.mem_cons.mp hp with rfl | hp
    · exact h.nt
    · exact OwA.nt r p hp
theorem OwA.nt {W : Wp} {G : GH} {H : Hp} : ∀ {v : List V} {t : List OT} {F : List Addr}, OwA W G H v t F → ∀ p ∈ F, NT H p
  | _, _, _, .nil, p, hp => by cases hp
  | _, _, _, .cons h r n, p, hp => by
    rcases List.mem_append.mp hp with hp | hp
    · exact Ow.nt h p hp
    · exact OwA.nt r p hp
end
theorem OwR.nt {W : Wp} {G : GH} {H : Hp} {a : Addr} {c : OC} {F : List Addr} (h : OwR W G H a c F) : ∀ p ∈ F, NT H p := by
  cases c with
  | lst xs => obtain ⟨rfl, vs, e, r⟩ := h; intro p hp; rw [List.mem_singleton.mp hp]; exact ⟨_, e, rfl⟩
  | dK xs => obtain ⟨rfl, vs, e, r⟩ := h; intro p hp; rw [List.mem_singleton.mp hp]; exact ⟨_, e, rfl⟩
  | tr q ts => exact Ow.nt (show Ow W G H _ _ _ from h)
/-- what stays stands in the heap; the tables of code objects stand in no such part -/
structure SB (W : Wp) (G : GH) (H : Hp) : Prop where
  s : Same G.hp H
  t : LamX.Tabs W.T H
  n : ∀ p ∈ W.T, G.hp p.1 = none
instance {W : Wp} {G : GH} {H : Hp} : CoeFun (SB W G H) (fun _ => ∀ b o, G.hp b = some o → H b = some o) := ⟨fun h => h.s⟩
theorem SB.trans {W : Wp} {G : GH} {H H' : Hp} (g : SB W G H) (e : Same H H') : SB W G H' := ⟨g.s.trans e, g.t.ext e, g.n⟩
theorem SB.free {W : Wp} {G : GH} {H : Hp} (g : SB W G H) {l : Addr} (h : H l = none) : G.hp l = none := g.s.free h
theorem SB.seq {W : Wp} {G : GH} {H : Hp} {K : PySem.W.Frag} {a : Addr} {xs : List V} (g : SB W G H) (h : SqL K G.hp a xs) : SqL K H a xs := g.s.seq h
abbrev GH.on (G : GH) (H : Hp) : GH := ⟨H, G.ads⟩
theorem SB.gs {W : Wp} {G : GH} {H : Hp} (g : SB W G H) : GS G (G.on H) := ⟨g.s, List.prefix_rfl⟩
theorem GS.sb {W : Wp} {G G' : GH} {H : Hp} (e : GS G G') (g : SB W G' H) : SB W G H := ⟨e.s.trans g.s, g.t, fun p hp => e.free (g.n p hp)⟩
theorem SB.ntab {W : Wp} {G : GH} {H : Hp} (g : SB W G H) {p : Addr} (h : H p = none) : ∀ q ∈ W.T, q.1 ≠ p := fun q hq z => by
  obtain ⟨ps, e, _⟩ := g.t q hq
  rw [z, h] at e
  cases e
theorem SB.both {W : Wp} {G : GH} {H : Hp} {p : Addr} {o : HO} (g : SB W G H) (n : H p = none) : SB W (G.upd p o) (upd H p o) :=
  ⟨same_both g.s, g.t.ext (same_new n), fun q hq => by show upd G.hp p o q.1 = none; rw [upd_ne (g.ntab n q hq)]; exact g.n q hq⟩
theorem tabs_put {T : List (Addr × Str)} {H : Hp} {p : Addr} {o : HO} (t : LamX.Tabs T H) (nt : NT H p) : LamX.Tabs T (upd H p o) := fun q hq => by
  obtain ⟨u, hu, hn⟩ := nt
  obtain ⟨ps, h1, h2, h3⟩ := t q hq
  refine ⟨ps, by rw [upd_ne (fun z => by rw [z, hu] at h1; cases h1; cases hn)]; exact h1, h2, fun pos cv hc => ?_⟩
  obtain ⟨c, e, h⟩ := h3 pos cv hc
  exact ⟨c, e, by rw [upd_ne (fun z => by rw [z, hu] at h; unfold LamX.CodeO at h; cases h; cases hn)]; exact h⟩
/-- tables where what is no plain thing stays -/
theorem tabs_keep {T : List (Addr × Str)} {H H' : Hp} (t : LamX.Tabs T H) (h : ∀ p o, o.nt = false → H p = some o → H' p = some o) : LamX.Tabs T H' := fun q hq => by
  obtain ⟨ps, h1, h2, h3⟩ := t q hq
  refine ⟨ps, h _ _ rfl h1, h2, fun pos cv hc => ?_⟩
  obtain ⟨c, e, hh⟩ := h3 pos cv hc
  exact ⟨c, e, h _ _ rfl hh⟩
/-- a cell that is no table changes -/
theorem SB.put {W : Wp} {G : GH} {H : Hp} {p : Addr} {o : HO} (g : SB W G H) (n : G.hp p = none) (nt : NT H p) : SB W G (upd H p o) := ⟨same_mut g.s n, tabs_put g.t nt, g.n⟩
/-- p is none of the cells that may change -/
def NoM (tp : Option Addr) (G : GH) (p : Addr) : Prop := ∀ a, tp = some a → p ≠ a ∧ p ∉ G.ads
theorem NoM.none {G : GH} {p : Addr} : NoM none G p := fun a h => by cases h
theorem NoM.nt {tp : Option Addr} {G : GH} {p : Addr} (h : NoM tp G p) : tp ≠ some p := fun z => (h p z).1 rfl
def NdR (W : Wp) (G : GH) (H : Hp) (a : Addr) : Nd → Prop
  | .lst xs => ∃ vs, H a = some (.lst vs) ∧ RpA W.K W.cm G vs xs
  | .dK kvs => ∃ vs, H a = some (.dK vs) ∧ RpK W.K W.cm G vs kvs
  | .obj C fs => ∃ dx vs, H a = some (.ins (W.cm C) dx vs) ∧ RpF W.K W.cm G vs fs
  | .gone => NT H a
  | .fz d => NT H a ∧ Rp W.K W.cm G (.ref a) d
def Nd.isFz : Nd → Bool
  | .fz _ => true
  | _ => false
theorem NdR.nt {W : Wp} {G : GH} {H : Hp} {a : Addr} {nd : Nd} (h : NdR W G H a nd) : NT H a := by
  cases nd with
  | lst xs => obtain ⟨_, h, _⟩ := h; exact ⟨_, h, rfl⟩
  | dK xs => obtain ⟨_, h, _⟩ := h; exact ⟨_, h, rfl⟩
  | obj C fs => obtain ⟨_, _, h, _⟩ := h; exact ⟨_, h, rfl⟩
  | gone => exact h
  | fz d => exact h.1
theorem NdR.keep {W : Wp} {G G' : GH} {H H' : Hp} {a : Addr} {nd : Nd} (h : NdR W G H a nd) (e : GS G G') (k : ∀ o, H a = some o → H' a = some o) : NdR W G' H' a nd := by
  cases nd with
  | lst xs => obtain ⟨vs, h, r⟩ := h; exact ⟨vs, k _ h, r.mono e⟩
  | dK xs => obtain ⟨vs, h, r⟩ := h; exact ⟨vs, k _ h, r.mono e⟩
  | obj C fs => obtain ⟨dx, vs, h, r⟩ := h; exact ⟨dx, vs, k _ h, r.mono e⟩
  | gone => obtain ⟨o, h, n⟩ := h; exact ⟨o, k _ h, n⟩
  | fz d => obtain ⟨⟨o, h, n⟩, r⟩ := h; exact ⟨⟨o, k _ h, n⟩, r.mono e⟩
/-- the things that may change -/
structure StR (W : Wp) (G : GH) (H : Hp) (tp : Addr) (st : List Nd) : Prop where
  l : st.length = G.ads.length
  d : G.ads.Nodup
  t : tp ∉ G.ads
  g : ∀ (k : Nat) (nd : Nd) (a : Addr), st[k]? = some nd → G.ads[k]? = some a → nd.isFz = false → G.hp a = none
  n : ∀ (k : Nat) (nd : Nd) (a : Addr), st[k]? = some nd → G.ads[k]? = some a → NdR W G H a nd
theorem StR.nt {W : Wp} {G : GH} {H : Hp} {tp : Addr} {st : List Nd} (h : StR W G H tp st) : ∀ a ∈ G.ads, NT H a := fun a ha => by
  obtain ⟨k, hk, e⟩ := List.mem_iff_getElem.mp ha
  have hl : k < st.length := by rw [h.l]; exact hk
  exact (h.n k st[k] a (List.getElem?_eq_getElem hl) (by rw [List.getElem?_eq_getElem hk, e])).nt
theorem StR.keep {W : Wp} {G G' : GH} {H H' : Hp} {tp : Addr} {st : List Nd} (h : StR W G H tp st) (e : GS G G') (za : G'.ads = G.ads) (g : ∀ a ∈ G.ads, G.hp a = none → G'.hp a = none) (k : ∀ a ∈ G.ads, ∀ o, H a = some o → H' a = some o) : StR W G' H' tp st :=
  ⟨by rw [za]; exact h.l, by rw [za]; exact h.d, by rw [za]; exact h.t, fun i nd a h1 h2 h3 => by rw [za] at h2; exact g a (List.mem_of_getElem? h2) (h.g i nd a h1 h2 h3), fun i nd a h1 h2 => (h.n i nd a h1 (by rw [za] at h2; exact h2)).keep e (k a (by rw [za] at h2; exact List.mem_of_getElem? h2))⟩
structure TapeR (W : Wp) (G : GH) (H : Hp) (tp : Addr) (τ : Tau) : Prop where
  g : G.hp tp = none
  c : ∃ c, G.hp c = some (.lst (τ.cells.map V.int)) ∧ H tp = some (W.tk τ c)
  n : NT H tp
  s : StR W G H tp τ.st
def TapeO (W : Wp) (G : GH) (H : Hp) : Option Addr → TS' → Prop
  | none, none => True
  | some a, some τ => TapeR W G H a τ
  | _, _ => False
/-- the lambda that a def got: what stood when it was made stands -/
def ThkR (W : Wp) (tp : Option Addr) (G : GH) (H : Hp) (v : V) : Prop := ∃ f c q g, W.th = some (f, c, q, g) ∧ v = .ref f ∧ GS g G ∧ NoM tp G c ∧ H c = some (LamX.CodeO c q)
theorem code_ne {H : Hp} {c p : Addr} {q : Str} (h : H c = some (LamX.CodeO c q)) (n : NT H p) : c ≠ p := fun z => by
  obtain ⟨u, hu, hn⟩ := n
  rw [← z, h] at hu
  cases hu
  cases hn
def SlotR (W : Wp) (tp : Option Addr) (G : GH) (H : Hp) : Option V → Option PV → Prop
  | _, none => True
  | some v, some (.fr d) => Rp W.K W.cm G v d
  | some v, some (.ow c) => ∃ a F, v = .ref a ∧ OwR W G H a c F ∧ ∀ p ∈ F, G.hp p = none ∧ NoM tp G p
  | some v, some .tape => ∃ a, tp = some a ∧ v = .ref a
  | some v, some (.scr ns) => ∃ a, v = .ref a ∧ SqL W.K G.hp a (ns.map V.int)
  | some v, some (.fn x) => v = .ref (W.cm x)
  | some v, some .thk => ThkR W tp G H v
  | _, _ => False
structure EnvV (W : Wp) (tp : Option Addr) (G : GH) (H : Hp) (σ : L2.St) (ρ : PEnv) (τ : TS') : Prop where
  g : SB W G H
  s : Paired (SlotR W tp G H) σ ρ
  d : ∀ (i j : Nat) (a b : Addr) (c c' : OC) (F F' : List Addr), ρ[i]? = some (some (PV.ow c)) → ρ[j]? = some (some (PV.ow c')) → σ[i]? = some (some (V.ref a)) → σ[j]? = some (some (V.ref b)) → OwR W G H a c F → OwR W G H b c' F' → ∀ p, p ∈ F → p ∈ F' → i = j
  t : TapeO W G H tp τ
structure Ext (tp : Option Addr) (G : GH) (H : Hp) (G' : GH) (H' : Hp) : Prop where
  g : GS G G'
  h : ∀ p o, NoM tp G p → o.tb = false → H p = some o → H' p = some o
  f : ∀ p, NoM tp G p → H p ≠ none → G.hp p = none → G'.hp p = none
  x : ∀ p, H p ≠ none → H' p ≠ none
  w : ∀ p ∈ G'.ads, p ∈ G.ads ∨ H p = none
  z : tp = none → G'.ads = G.ads
theorem Ext.nom {tp : Option Addr} {G G' : GH} {H H' : Hp} (e : Ext tp G H G' H') {p : Addr} (h : NoM tp G p) (n : H p ≠ none) : NoM tp G' p := fun a ha => ⟨(h a ha).1, fun z => (e.w p z).elim (h a ha).2 n⟩
theorem Paired.getL {α β : Type} {F : α → β → Prop} : ∀ {xs : List α} {ys : List β} {i : Nat} {y : β}, Paired F xs ys → ys[i]? = some y → ∃ x, xs[i]? = some x ∧ F x y
  | _, _, _, _, .nil, e => by simp at e
  | _, _, 0, _, .cons h _, e => by simp at e; subst e; exact ⟨_, rfl, h⟩
  | _, _, i + 1, _, .cons _ r, e => by
    obtain ⟨u, h1, h2⟩ := Paired.getL (i := i) r (by simpa using e)
    exact ⟨u, by simpa using h1, h2⟩
theorem Paired.setL {α β : Type} {F : α → β → Prop} {x : α} {y : β} (h : F x y) : ∀ {xs : List α} {ys : List β} (i : Nat), Paired F xs ys → Paired F (xs.set i x) (ys.set i y)
  | _, _, _, .nil => .nil
  | _, _, 0, .cons _ t => .cons h t
  | _, _, i + 1, .cons q t => .cons q (Paired.setL h i t)
/-- each pair may use where it stands -/
theorem Paired.mapI {α β : Type} {F F' : α → β → Prop} : ∀ {xs : List α} {ys : List β}, Paired F xs ys → (∀ (i : Nat) x y, xs[i]? = some x → ys[i]? = some y → F x y → F' x y) → Paired F' xs ys
  | _, _, .nil, _ => .nil
  | _, _, .cons h t, k => .cons (k 0 _ _ rfl rfl h) (Paired.mapI t fun i x y a b c => k (i + 1) x y (by simpa using a) (by simpa using b) c)
section
variable {W : Wp} {tp : Option Addr} {G G' G2 : GH} {H H' H2 : Hp} {σ : L2.St} {ρ : PEnv} {τ τ' : TS'} {o : HO}
theorem Ext.refl : Ext tp G H G H := ⟨GS.refl _, fun _ _ _ _ h => h, fun _ _ _ h => h, fun _ h => h, fun _ h => .inl h, fun _ => rfl⟩
theorem Ext.trans (e : Ext tp G H G' H') (e' : Ext tp G' H' G2 H2) : Ext tp G H G2 H2 := by
  refine ⟨e.g.trans e'.g, fun p o n t h => e'.h p o (e.nom n (by rw [h]; simp)) t (e.h p o n t h), fun p n hp hg => e'.f p (e.nom n hp) (e.x p hp) (e.f p n hp hg), fun p h => e'.x p (e.x p h), fun p hp => ?_, fun h => (e'.z h).trans (e.z h)⟩
  rcases e'.w p hp with h | h
  · exact e.w p h
  · exact .inr (by
      cases z : H p with
      | none => rfl
      | some o => exact (e.x p (by rw [z]; simp) h).elim)
theorem Ext.weak (e : Ext none G H G' H') : Ext tp G H G' H' := ⟨e.g, fun p o _ => e.h p o NoM.none, fun p _ => e.f p NoM.none, e.x, e.w, fun _ => e.z rfl⟩
/-- all stays -/
theorem Ext.ofS (g : GS G G') (h : Same H H') (f : ∀ p, H p ≠ none → G.hp p = none → G'.hp p = none) (za : G'.ads = G.ads) : Ext tp G H G' H' :=
  ⟨g, fun p o _ _ => h p o, fun p _ => f p, fun p hp => by
    cases z : H p with
    | none => exact (hp z).elim
    | some o => rw [h p o z]; simp, fun p hp => .inl (by rw [← za]; exact hp), fun _ => za⟩
theorem Ext.new {p : Addr} (n : H p = none) (g : SB W G H) : Ext tp G H (G.upd p o) (upd H p o) :=
  Ext.ofS (GS.new (g.free n)) (same_new n) (fun q h hg => by
    show upd G.hp p o q = none
    rw [upd_ne (fun z => h (by rw [z]; exact n))]; exact hg) rfl
theorem Ext.newH {p : Addr} (n : H p = none) : Ext tp G H G (upd H p o) := Ext.ofS (GS.refl _) (same_new n) (fun q _ hg => hg) rfl
theorem OwR.some {a : Addr} {c : OC} {F : List Addr} (w : OwR W G H a c F) {p : Addr} (hp : p ∈ F) : H p ≠ none := w.at p hp
/-- an owned thing is kept -/
theorem OwR.ext {a : Addr} {c : OC} {F : List Addr} (w : OwR W G H a c F) (gn : ∀ p ∈ F, G.hp p = none ∧ NoM tp G p) (e : Ext tp G H G' H') : OwR W G' H' a c F :=
  w.keep e.g fun p hp o h => by
    obtain ⟨u, hu, hn⟩ := w.nt p hp
    rw [h] at hu
    cases hu
    exact e.h p o (gn p hp).2 (nt_tb hn) h
theorem SlotR.ext {v : Option V} {p : Option PV} (h : SlotR W tp G H v p) (e : Ext tp G H G' H') : SlotR W tp G' H' v p := by
  match v, p, h with
  | _, none, _ => trivial
  | some v, some (.fr d), h => exact Rp.mono e.g h
  | some v, some (.ow c), ⟨a, F, r, w, gn⟩ => exact ⟨a, F, r, w.ext gn e, fun p hp => ⟨e.f p (gn p hp).2 (w.at p hp) (gn p hp).1, e.nom (gn p hp).2 (w.at p hp)⟩⟩
  | some v, some .tape, h => exact h
  | some v, some (.scr ns), ⟨a, r, q⟩ => exact ⟨a, r, e.g.seq q⟩
  | some v, some (.fn x), h => exact h
  | some v, some .thk, ⟨f, c, q, g, a, b, s, n, h⟩ => exact ⟨f, c, q, g, a, b, s.trans e.g, e.nom n (by rw [h]; simp), e.h c _ n rfl h⟩
/-- the owned thing of a slot -/
theorem EnvV.own {i : Nat} {a : Addr} {c : OC} (E : EnvV W tp G H σ ρ τ) (hi : ρ[i]? = some (some (PV.ow c))) (ha : σ[i]? = some (some (V.ref a))) : ∃ F, OwR W G H a c F ∧ ∀ p ∈ F, G.hp p = none ∧ NoM tp G p := by
  obtain ⟨v, h1, h2⟩ := Paired.getL E.s hi
  rw [ha] at h1
  cases h1
  obtain ⟨b, F, r, w, gn⟩ := h2
  cases r
  exact ⟨F, w, gn⟩
theorem EnvV.ownS {i : Nat} {c : OC} (E : EnvV W tp G H σ ρ τ) (hi : ρ[i]? = some (some (PV.ow c))) : ∃ a F, σ[i]? = some (some (V.ref a)) ∧ OwR W G H a c F ∧ ∀ p ∈ F, G.hp p = none ∧ NoM tp G p := by
  obtain ⟨v, h1, h2⟩ := Paired.getL E.s hi
  cases v with
  | none => exact h2.elim
  | some v =>
    obtain ⟨b, F, rfl, w, gn⟩ := h2
    exact ⟨b, F, h1, w, gn⟩
/-- what is owned later with F was owned with F -/
theorem EnvV.back {i : Nat} {a : Addr} {c : OC} {F : List Addr} (E : EnvV W tp G H σ ρ τ) (g : GS G G') (k : ∀ p o, (∀ F0, OwR W G H a c F0 → p ∈ F0) → H p = some o → H' p = some o) (hi : ρ[i]? = some (some (PV.ow c))) (ha : σ[i]? = some (some (V.ref a))) (w : OwR W G' H' a c F) : OwR W G H a c F := by
  obtain ⟨F0, w0, gn⟩ := E.own hi ha
  have w1 : OwR W G' H' a c F0 := w0.keep g fun p hp o => k p o fun F1 w1 => by rw [w1.uniq w0]; exact hp
  rw [w.uniq w1]
  exact w0
theorem EnvV.backE {i : Nat} {a : Addr} {c : OC} {F : List Addr} (E : EnvV W tp G H σ ρ τ) (e : Ext tp G H G' H') (hi : ρ[i]? = some (some (PV.ow c))) (ha : σ[i]? = some (some (V.ref a))) (w : OwR W G' H' a c F) : OwR W G H a c F := by
  obtain ⟨F0, w0, gn⟩ := E.own hi ha
  rw [w.uniq (w0.ext gn e)]
  exact w0
theorem EnvV.ext (E : EnvV W tp G H σ ρ τ) (e : Ext tp G H G' H') (g : SB W G' H') (t : TapeO W G' H' tp τ') : EnvV W tp G' H' σ ρ τ' :=
  ⟨g, Paired.mapI E.s fun _ _ _ _ _ h => h.ext e, fun i j a b c c' F F' h1 h2 h3 h4 w w' => E.d i j a b c c' F F' h1 h2 h3 h4 (E.backE e h1 h3 w) (E.backE e h2 h4 w'), t⟩
theorem Ext.kn (e : Ext none G H G' H') {p : Addr} (n : NT H p) : ∀ o, H p = some o → H' p = some o := fun o h => by
  obtain ⟨u, hu, hn⟩ := n
  rw [h] at hu
  cases hu
  exact e.h p o NoM.none (nt_tb hn) h
theorem TapeR.ext {a : Addr} {τ : Tau} (t : TapeR W G H a τ) (e : Ext none G H G' H') : TapeR W G' H' a τ := by
  obtain ⟨g, ⟨c, s, h⟩, n, st⟩ := t
  refine ⟨e.f a NoM.none (by rw [h]; simp) g, ⟨c, e.g.s _ _ s, e.kn n _ h⟩, ?_, st.keep e.g (e.z rfl) (fun b hb z => e.f b NoM.none (by obtain ⟨o, z, _⟩ := st.nt b hb; rw [z]; simp) z) fun b hb => e.kn (st.nt b hb)⟩
  obtain ⟨o, z, q⟩ := n
  exact ⟨o, e.kn ⟨o, z, q⟩ o z, q⟩
theorem TapeO.ext (t : TapeO W G H tp τ) (e : Ext none G H G' H') : TapeO W G' H' tp τ := by
  match tp, τ, t with
  | none, none, _ => trivial
  | some a, some τ, t => exact TapeR.ext t e
theorem TapeR.put {a p : Addr} {τ : Tau} (t : TapeR W G H a τ) (n : p ≠ a ∧ p ∉ G.ads) : TapeR W G (upd H p o) a τ := by
  obtain ⟨g, ⟨c, s, h⟩, ⟨u, hu, hn⟩, st⟩ := t
  exact ⟨g, ⟨c, s, by rw [upd_ne (fun z => n.1 z.symm)]; exact h⟩, ⟨u, by rw [upd_ne (fun z => n.1 z.symm)]; exact hu, hn⟩, st.keep (GS.refl _) rfl (fun _ _ z => z) fun b hb u h => by rw [upd_ne (fun z => n.2 (by rw [← z]; exact hb))]; exact h⟩
theorem TapeO.put {p : Addr} (t : TapeO W G H tp τ) (n : NoM tp G p) : TapeO W G (upd H p o) tp τ := by
  match tp, τ, t, n with
  | none, none, _, _ => trivial
  | some a, some τ, t, n => exact TapeR.put t (n a rfl)
theorem GS.frz {F : GH} (e : Same G.hp F.hp) (za : F.ads = G.ads) : GS G F := ⟨e, by rw [za]; exact List.prefix_rfl⟩
theorem SB.frz {p : Addr} (g : SB W G H) (h : H p = some o) (t : o.tb = false) : SB W (G.upd p o) H := by
  refine ⟨fun q u hq => ?_, g.t, fun q hq => ?_⟩
  · have hq : upd G.hp p o q = some u := hq
    by_cases z : q = p
    · rw [z, upd_same] at hq
      rw [z, h, hq]
    · rw [upd_ne z] at hq
      exact g.s q u hq
  · obtain ⟨ps, e, _⟩ := g.t q hq
    show upd G.hp p o q.1 = none
    rw [upd_ne (fun z => by rw [z, h] at e; cases e; cases t)]
    exact g.n q hq
/-- some of what may not change stays from now on -/
theorem TapeO.frz {F : GH} (t : TapeO W G H tp τ) (e : Same G.hp F.hp) (za : F.ads = G.ads) (n : ∀ p, G.hp p = none → (∀ a, tp = some a → p = a ∨ p ∈ G.ads) → F.hp p = none ∨ tp = none) : TapeO W F H tp τ := by
  match tp, τ, t, n with
  | none, none, _, _ => trivial
  | some a, some τ, t, n =>
    obtain ⟨g, ⟨c, s, h⟩, u, st⟩ := t
    have n1 : ∀ p, G.hp p = none → (p = a ∨ p ∈ G.ads) → F.hp p = none := fun p h1 h2 => (n p h1 fun b hb => by cases hb; exact h2).elim id fun z => by cases z
    exact ⟨n1 a g (.inl rfl), ⟨c, e _ _ s, h⟩, u, st.keep (GS.frz e za) za (fun b hb z => n1 b z (.inr hb)) fun b hb u h => h⟩
theorem TapeO.frz1 {p : Addr} (t : TapeO W G H tp τ) (g : G.hp p = none) (n : NoM tp G p) : TapeO W (G.upd p o) H tp τ :=
  t.frz (same_new g) rfl fun q hq hm => by
    cases tp with
    | none => exact .inr rfl
    | some a =>
      refine .inl ?_
      show upd G.hp p o q = none
      rw [upd_ne (fun z => by rcases hm a rfl with h | h; exact (n a rfl).1 (by rw [← z]; exact h); exact (n a rfl).2 (by rw [← z]; exact h))]
      exact hq
/-- what only grows -/
theorem EnvV.grow (E : EnvV W tp G H σ ρ τ) (e : Ext none G H G' H') (g : SB W G' H') : EnvV W tp G' H' σ ρ τ := E.ext e.weak g (E.t.ext e)
theorem EnvV.new {p : Addr} (E : EnvV W tp G H σ ρ τ) (n : H p = none) : EnvV W tp (G.upd p o) (upd H p o) σ ρ τ := E.grow (Ext.new n E.g) (E.g.both n)
theorem TapeO.noM {p : Addr} (t : TapeO W G H tp τ) (n : H p = none) : NoM tp G p := fun a ha => by
  subst ha
  cases τ with
  | none => exact t.elim
  | some τ =>
    have t : TapeR W G H a τ := t
    obtain ⟨u, hu, _⟩ := t.n
    refine ⟨fun z => (by rw [← z, n] at hu; cases hu), fun z => ?_⟩
    obtain ⟨u, hu, _⟩ := t.s.nt p z
    rw [n] at hu
    cases hu
theorem EnvV.noM {p : Addr} (E : EnvV W tp G H σ ρ τ) (n : H p = none) : NoM tp G p := E.t.noM n
theorem EnvV.newH {p : Addr} (E : EnvV W tp G H σ ρ τ) (n : H p = none) : EnvV W tp G (upd H p o) σ ρ τ := E.grow (Ext.newH n) (E.g.trans (same_new n))
end
section
variable (W : Wp) (Wx : L2.St → XK) {α β : Type} (rel : Option Addr → GH → β → α → Prop)
/-- an exception has come -/
def ExR (G : GH) (H : Hp) (x : Ex) (d : Option Addr) : Prop := ∃ vs, XdAt G.hp d vs ∧ RpF W.K W.cm G vs x.fs
def Pg (tp : Option Addr) (σ : L2.St) (ρ : PEnv) (G : GH) (H : Hp) (Q : β → Hp → Prop) : R α → Prop
  | .ok a τ => ∀ b G' H', Ext tp G H G' H' → EnvV W tp G' H' σ ρ τ → rel tp G' b a → Q b H'
  | .ex x τ => ∀ d G' H', Ext tp G H G' H' → EnvV W tp G' H' σ ρ τ → ExR W G' H' x d → Wx σ (.ref (W.cm x.cls)) d H'
  | .no => False
def DnG (t : L2.St → Hp → (β → Hp → Prop) → Prop) (δ : PEnv → TS' → R α) : Prop :=
  ∀ tp G H σ ρ τ (Q : β → Hp → Prop), EnvV W tp G H σ ρ τ → Pg W Wx rel tp σ ρ G H Q (δ ρ τ) → t σ H Q
end
section
variable {W : Wp} {Wx : L2.St → XK} {α β α' β' : Type} {rel : Option Addr → GH → β → α → Prop} {rel' : Option Addr → GH → β' → α' → Prop}
variable {tp : Option Addr} {G G' : GH} {H H' : Hp} {σ : L2.St} {ρ : PEnv} {τ : TS'} {Q : β' → Hp → Prop} {Q' : β → Hp → Prop} {r : R α} {f : α → TS' → R α'}
theorem Pg.shift {r : R α'} (P : Pg W Wx rel' tp σ ρ G H Q r) (e : Ext tp G H G' H') : Pg W Wx rel' tp σ ρ G' H' Q r := by
  cases r with
  | ok a τ => exact fun b G2 H2 e2 => P b G2 H2 (e.trans e2)
  | ex x τ => exact fun d G2 H2 e2 => P d G2 H2 (e.trans e2)
  | no => exact P
theorem Pg.bind (P : Pg W Wx rel' tp σ ρ G H Q (r.bind f))
    (k : ∀ a τ1 b G1 H1, Ext tp G H G1 H1 → EnvV W tp G1 H1 σ ρ τ1 → rel tp G1 b a → Pg W Wx rel' tp σ ρ G1 H1 Q (f a τ1) → Q' b H1) : Pg W Wx rel tp σ ρ G H Q' r := by
  cases r with
  | ok a τ => exact fun b G2 H2 e2 E2 r2 => k a τ b G2 H2 e2 E2 r2 (Pg.shift (r := f a τ) P e2)
  | ex x τ => exact P
  | no => exact P
theorem Pg.ret {r : R α'} {a : α'} {b : β'} (e : r = .ok a τ) (P : Pg W Wx rel' tp σ ρ G H Q r) (E : EnvV W tp G H σ ρ τ) (h : rel' tp G b a) : Q b H := by
  subst e
  exact P b G H Ext.refl E h
end
abbrev rE (W : Wp) : Option Addr → GH → V → DD → Prop := fun _ G v d => Rp W.K W.cm G v d
abbrev rT : Option Addr → GH → Bool → Bool → Prop := fun _ _ b c => b = c
abbrev rA (W : Wp) : Option Addr → GH → List V → List DD → Prop := fun _ G v d => RpA W.K W.cm G v d
def ArgR (W : Wp) (tp : Option Addr) (G : GH) (v : V) : PV → Prop
  | .fr d => Rp W.K W.cm G v d
  | .tape => ∃ a, tp = some a ∧ v = .ref a
  | .ow _ => False
  | .scr ns => ∃ a, v = .ref a ∧ SqL W.K G.hp a (ns.map V.int)
  | .fn x => v = .ref (W.cm x)
  | .thk => False
abbrev rP (W : Wp) : Option Addr → GH → V → PV → Prop := fun tp G v d => ArgR W tp G v d
abbrev rPs (W : Wp) : Option Addr → GH → List V → List PV → Prop := fun tp G v d => Paired (ArgR W tp G) v d
abbrev DE := PEnv → TS' → R DD
abbrev DT := PEnv → TS' → R Bool
abbrev DA := PEnv → TS' → R (List DD)
abbrev DP := PEnv → TS' → R PV
abbrev DPs := PEnv → TS' → R (List PV)
abbrev Dn (W : Wp) (Wx : L2.St → XK) (t : TE) (δ : DE) : Prop := DnG W Wx (rE W) t δ
abbrev DnT (W : Wp) (Wx : L2.St → XK) (t : TT) (δ : DT) : Prop := DnG W Wx rT t δ
abbrev DnA (W : Wp) (Wx : L2.St → XK) (t : TA) (δ : DA) : Prop := DnG W Wx (rA W) t δ
abbrev DnPs (W : Wp) (Wx : L2.St → XK) (t : TA) (δ : DPs) : Prop := DnG W Wx (rPs W) t δ
abbrev DnP (W : Wp) (Wx : L2.St → XK) (t : TE) (δ : DP) : Prop := DnG W Wx (rP W) t δ
def dC (d : DD) : DE := fun _ τ => .ok d τ
def dV (i : Nat) : DE := fun ρ τ => match ρ[i]? with
  | some (some (.fr d)) => .ok d τ
  | _ => .no
def dOp (g : DD → DD → Option DD) (a b : DE) : DE := fun ρ τ => (a ρ τ).bind fun x τ1 => (b ρ τ1).bind fun y τ2 => R.of τ2 (g x y)
def dUn (g : DD → Option DD) (a : DE) : DE := fun ρ τ => (a ρ τ).bind fun x τ1 => R.of τ1 (g x)
/-- an operator's reading answers g -/
def OpD (W : Wp) (r : R2) (g : DD → DD → Option DD) : Prop := ∀ (G : GH) (H : Hp) (x y : V) (a b c : DD) (Q : VK), SB W G H → Rp W.K W.cm G x a → Rp W.K W.cm G y b → g a b = some c →
  (∀ v G' H', Ext none G H G' H' → SB W G' H' → Rp W.K W.cm G' v c → Q v H') → r x y H Q
def UnD (W : Wp) (r : V → Hp → VK → Prop) (g : DD → Option DD) : Prop := ∀ (G : GH) (H : Hp) (x : V) (a c : DD) (Q : VK), SB W G H → Rp W.K W.cm G x a → g a = some c →
  (∀ v G' H', Ext none G H G' H' → SB W G' H' → Rp W.K W.cm G' v c → Q v H') → r x H Q
def CallD (W : Wp) (r : List V → Hp → VK → Prop) (g : List DD → Option DD) : Prop := ∀ (G : GH) (H : Hp) (x : List V) (a : List DD) (c : DD) (Q : VK), SB W G H → RpA W.K W.cm G x a → g a = some c →
  (∀ v G' H', Ext none G H G' H' → SB W G' H' → Rp W.K W.cm G' v c → Q v H') → r x H Q
section
variable {W : Wp} {Wx : L2.St → XK} {ta tb : TE} {δa δb : DE}
theorem dn_c {v : V} {d : DD} (h : ∀ G, Rp W.K W.cm G v d) : Dn W Wx (tC v) (dC d) := fun tp G H σ ρ τ Q E P => P v G H Ext.refl E (h G)
theorem dn_int {i : Int} : Dn W Wx (tC (.int i)) (dC (.int i)) := dn_c fun _ => .int i
theorem dn_str {i : Str} : Dn W Wx (tC (.str i)) (dC (.str i)) := dn_c fun _ => .str i
theorem dn_bl {i : Bool} : Dn W Wx (tC (.bl i)) (dC (.bl i)) := dn_c fun _ => .bl i
theorem dn_non : Dn W Wx (tC .non) (dC .non) := dn_c fun _ => .non
theorem dn_v {i : Nat} : Dn W Wx (tVar i) (dV i) := fun tp G H σ ρ τ Q E P => by
  unfold dV at P
  split at P
  · rename_i d e
    obtain ⟨x, h1, h2⟩ := Paired.getL E.s e
    cases x with
    | none => exact h2.elim
    | some v => exact ⟨v, h1, P v G H Ext.refl E h2⟩
  · exact P.elim
theorem Pg.of {α β : Type} {rel : Option Addr → GH → β → α → Prop} {tp : Option Addr} {G : GH} {H : Hp} {σ : L2.St} {ρ : PEnv} {τ : TS'} {Q : β → Hp → Prop} {o : Option α} (P : Pg W Wx rel tp σ ρ G H Q (R.of τ o)) : ∃ a, o = some a ∧ Pg W Wx rel tp σ ρ G H Q (.ok a τ) := by
  cases o with
  | none => exact P.elim
  | some a => exact ⟨a, rfl, P⟩
theorem dn_op {r : R2} {g : DD → DD → Option DD} (ho : OpD W r g) (ha : Dn W Wx ta δa) (hb : Dn W Wx tb δb) : Dn W Wx (tOp r ta tb) (dOp g δa δb) := fun tp G H σ ρ τ Q E P =>
  ha _ _ _ _ _ _ _ E (P.bind fun a τ1 x G1 H1 e1 E1 r1 P1 => hb _ _ _ _ _ _ _ E1 (P1.bind fun b τ2 y G2 H2 e2 E2 r2 P2 => by
    obtain ⟨c, hc, P3⟩ := P2.of
    exact ho G2 H2 x y a b c Q E2.g (Rp.mono e2.g r1) r2 hc fun v G3 H3 e3 g3 r3 => P3 v G3 H3 e3.weak (E2.grow e3 g3) r3))
theorem dn_un {r : V → Hp → VK → Prop} {g : DD → Option DD} (ho : UnD W r g) (ha : Dn W Wx ta δa) : Dn W Wx (tUn r ta) (dUn g δa) := fun tp G H σ ρ τ Q E P =>
  ha _ _ _ _ _ _ _ E (P.bind fun a τ1 x G1 H1 e1 E1 r1 P1 => by
    obtain ⟨c, hc, P3⟩ := P1.of
    exact ho G1 H1 x a c Q E1.g r1 hc fun v G3 H3 e3 g3 r3 => P3 v G3 H3 e3.weak (E1.grow e3 g3) r3)
end
end Np
set_option Elab.async false
set_option linter.all false
set_option maxRecDepth 100000
set_option maxHeartbeats 4000000
namespace Np
open PySem PySem.Spec PyProof.Rows L2
def oInt (g : Int → Int → Option DD) : DD → DD → Option DD
  | .int i, .int j => g i j
  | _, _ => none
def oStr (g : Str → Str → Option DD) : DD → DD → Option DD
  | .str i, .str j => g i j
  | _, _ => none
instance (i j : Int) : Decidable (CMul i j) := by unfold CMul; infer_instance
instance (i j : Int) : Decidable (CDiv i j) := by unfold CDiv; infer_instance
instance (i j : Int) : Decidable (CDivN i j) := by unfold CDivN; infer_instance
instance (i j : Int) : Decidable (CPow i j) := by unfold CPow; infer_instance
theorem ext_n {G : GH} {H : Hp} : Ext none G H G H := Ext.refl
section
variable {W : Wp}
theorem od_I0 {f : Int → Int → V} {g : Int → Int → DD} (h : ∀ i j G, Rp W.K W.cm G (f i j) (g i j)) : OpD W (rI0 f) (oInt fun i j => some (g i j)) := by
  intro G H x y a b c Q s ra rb e k
  cases a <;> cases b <;> first | (cases e; done) | skip
  rename_i i j
  cases e
  exact ⟨i, j, ra.int_of, rb.int_of, k _ G H ext_n s (h i j G)⟩
theorem od_I {C : Int → Int → Prop} [∀ i j, Decidable (C i j)] {f : Int → Int → V} {g : Int → Int → DD} (h : ∀ i j G, Rp W.K W.cm G (f i j) (g i j)) : OpD W (rI C f) (oInt fun i j => if C i j then some (g i j) else none) := by
  intro G H x y a b c Q s ra rb e k
  cases a <;> cases b <;> first | (cases e; done) | skip
  rename_i i j
  have e : (if C i j then some (g i j) else none) = some c := e
  split at e
  · rename_i hc
    cases e
    exact ⟨i, j, ra.int_of, rb.int_of, hc, k _ G H ext_n s (h i j G)⟩
  · cases e
abbrev gAdd := oInt fun i j => some (.int (i + j))
abbrev gSub := oInt fun i j => some (.int (i - j))
abbrev gMul := oInt fun i j => if CMul i j then some (.int (i * j)) else none
abbrev gFdiv := oInt fun i j => if CDiv i j then some (.int (i / j)) else none
abbrev gFdivN := oInt fun i j => if CDivN i j then some (.int (i.fdiv j)) else none
abbrev gMod := oInt fun i j => if 0 < j then some (.int (i % j)) else none
abbrev gPow := oInt fun i j => if CPow i j then some (.int (i ^ j.toNat)) else none
abbrev gLt := oInt fun i j => some (.bl (decide (i < j)))
abbrev gGt := oInt fun i j => some (.bl (decide (j < i)))
abbrev gGe := oInt fun i j => some (.bl (decide (j ≤ i)))
theorem od_add : OpD W (rI0 fun i j => .int (i + j)) gAdd := od_I0 fun _ _ _ => .int _
theorem od_sub : OpD W (rI0 fun i j => .int (i - j)) gSub := od_I0 fun _ _ _ => .int _
theorem od_mul : OpD W (rI CMul fun i j => .int (i * j)) gMul := od_I fun _ _ _ => .int _
theorem od_fdiv : OpD W (rI CDiv fun i j => .int (i / j)) gFdiv := od_I fun _ _ _ => .int _
theorem od_fdivN : OpD W (rI CDivN fun i j => .int (i.fdiv j)) gFdivN := od_I fun _ _ _ => .int _
theorem od_mod : OpD W (rI (fun _ j => 0 < j) fun i j => .int (i % j)) gMod := od_I fun _ _ _ => .int _
theorem od_pow : OpD W (rI CPow fun i j => .int (i ^ j.toNat)) gPow := od_I fun _ _ _ => .int _
theorem od_lt : OpD W (rI0 fun i j => .bl (decide (i < j))) gLt := od_I0 fun _ _ _ => .bl _
theorem od_gt : OpD W (rI0 fun i j => .bl (decide (j < i))) gGt := od_I0 fun _ _ _ => .bl _
theorem od_ge : OpD W (rI0 fun i j => .bl (decide (j ≤ i))) gGe := od_I0 fun _ _ _ => .bl _
abbrev gCatS := oStr fun i j => if i.length + j.length ≤ sizeLine then some (.str (i ++ j)) else none
theorem od_add_str : OpD W (fun x y H Q => ∃ i j, x = .str i ∧ y = .str j ∧ i.length + j.length ≤ sizeLine ∧ Q (.str (i ++ j)) H) gCatS := by
  intro G H x y a b c Q s ra rb e k
  cases a <;> cases b <;> first | (cases e; done) | skip
  rename_i i j
  have e : (if i.length + j.length ≤ sizeLine then some (DD.str (i ++ j)) else none) = some c := e
  split at e
  · rename_i hc
    cases e
    exact ⟨i, j, ra.str_of, rb.str_of, hc, k _ G H ext_n s (.str _)⟩
  · cases e
instance (z : Str) (n : Int) : Decidable (MulOk z n) := by unfold MulOk; infer_instance
def gMulS : DD → DD → Option DD
  | .str z, .int n => if MulOk z n then some (.str (Txt.mul z n)) else none
  | _, _ => none
theorem od_mulS : OpD W (fun x y H Q => ∃ (z : Str) (n : Int), x = .str z ∧ y = .int n ∧ MulOk z n ∧ Q (.str (Txt.mul z n)) H) gMulS := by
  intro G H x y a b c Q s ra rb e k
  unfold gMulS at e
  split at e
  · rename_i z n
    split at e
    · rename_i hc
      cases e
      exact ⟨z, n, ra.str_of, rb.int_of, hc, k _ G H ext_n s (.str _)⟩
    · cases e
  · cases e
def gEq (neg : Bool) : DD → DD → Option DD
  | .int i, .int j => some (.bl (if neg then !decide (i = j) else decide (i = j)))
  | .str i, .str j => some (.bl (if neg then !decide (i = j) else decide (i = j)))
  | .bl i, .bl j => some (.bl (if neg then !decide (i = j) else decide (i = j)))
  | .non, .non => some (.bl (!neg))
  | .non, .int _ => some (.bl neg)
  | .int _, .non => some (.bl neg)
  | .non, .bl _ => some (.bl neg)
  | .bl _, .non => some (.bl neg)
  | .non, .str _ => some (.bl neg)
  | .str _, .non => some (.bl neg)
  | .int _, .str _ => some (.bl neg)
  | .str _, .int _ => some (.bl neg)
  | .bl _, .str _ => some (.bl neg)
  | .str _, .bl _ => some (.bl neg)
  | _, _ => none
theorem od_eq : OpD W rEq (gEq false) := by
  intro G H x y a b c Q s ra rb e k
  unfold gEq at e
  split at e <;> first | (cases e; done) | skip
  all_goals
    cases e
    cases ra
    cases rb
    refine ⟨rfl, ?_⟩
    have q := k _ G H ext_n s (.bl _)
    simpa using q
theorem od_ne : OpD W rNe (gEq true) := by
  intro G H x y a b c Q s ra rb e k
  unfold gEq at e
  split at e <;> first | (cases e; done) | skip
  all_goals
    cases e
    cases ra
    cases rb
    refine ⟨rfl, ?_⟩
    have q := k _ G H ext_n s (.bl _)
    simpa using q
def gIsN (neg : Bool) : DD → DD → Option DD
  | .non, .non => some (.bl (!neg))
  | _, .non => some (.bl neg)
  | _, _ => none
end
end Np
set_option Elab.async false
set_option linter.all false
set_option maxRecDepth 100000
set_option maxHeartbeats 4000000
namespace Np
open PySem PySem.Spec PyProof.Rows L2
def ints? : List DD → Option (List Int)
  | [] => some []
  | .int i :: ds => (ints? ds).map (i :: ·)
  | _ => none
def strs? : List DD → Option (List Str)
  | [] => some []
  | .str i :: ds => (strs? ds).map (i :: ·)
  | _ => none
def bls? : List DD → Option (List Bool)
  | [] => some []
  | .bl i :: ds => (bls? ds).map (i :: ·)
  | _ => none
@[simp] theorem ints?_map : ∀ ns : List Int, ints? (ns.map DD.int) = some ns
  | [] => rfl
  | n :: ns => by show (ints? (ns.map DD.int)).map (n :: ·) = _; rw [ints?_map ns] <;> rfl
@[simp] theorem strs?_map : ∀ ns : List Str, strs? (ns.map DD.str) = some ns
  | [] => rfl
  | n :: ns => by show (strs? (ns.map DD.str)).map (n :: ·) = _; rw [strs?_map ns] <;> rfl
@[simp] theorem bls?_map : ∀ ns : List Bool, bls? (ns.map DD.bl) = some ns
  | [] => rfl
  | n :: ns => by show (bls? (ns.map DD.bl)).map (n :: ·) = _; rw [bls?_map ns] <;> rfl
theorem ints?_eq : ∀ {ds : List DD} {ns : List Int}, ints? ds = some ns → ds = ns.map DD.int
  | [], _, h => by cases h; rfl
  | d :: ds, ns, h => by
    cases d <;> first | (cases h; done) | skip
    obtain ⟨ms, h1, h2⟩ := Option.map_eq_some_iff.mp h
    rw [ints?_eq h1, ← h2] <;> rfl
theorem strs?_eq : ∀ {ds : List DD} {ns : List Str}, strs? ds = some ns → ds = ns.map DD.str
  | [], _, h => by cases h; rfl
  | d :: ds, ns, h => by
    cases d <;> first | (cases h; done) | skip
    obtain ⟨ms, h1, h2⟩ := Option.map_eq_some_iff.mp h
    rw [strs?_eq h1, ← h2] <;> rfl
def dNil : DA := fun _ τ => .ok [] τ
def dCons (a : DE) (r : DA) : DA := fun ρ τ => (a ρ τ).bind fun x τ1 => (r ρ τ1).bind fun xs τ2 => .ok (x :: xs) τ2
def dCall (g : List DD → Option DD) (a : DA) : DE := fun ρ τ => (a ρ τ).bind fun x τ1 => R.of τ1 (g x)
section
variable {W : Wp} {Wx : L2.St → XK} {ta tb tc : TE} {δa δb δc : DE} {tr : TA} {δr : DA}
theorem da_nil : DnA W Wx tNil dNil := fun tp G H σ ρ τ Q E P => P [] G H Ext.refl E .nil
theorem da_cons (ha : Dn W Wx ta δa) (hr : DnA W Wx tr δr) : DnA W Wx (tCons ta tr) (dCons δa δr) := fun tp G H σ ρ τ Q E P =>
  ha _ _ _ _ _ _ _ E (P.bind fun a τ1 x G1 H1 e1 E1 r1 P1 => hr _ _ _ _ _ _ _ E1 (P1.bind fun b τ2 y G2 H2 e2 E2 r2 P2 => P2 _ G2 H2 Ext.refl E2 (.cons (Rp.mono e2.g r1) r2)))
theorem dn_cb {r : List V → Hp → VK → Prop} {g : List DD → Option DD} (hc : CallD W r g) (hr : DnA W Wx tr δr) : Dn W Wx (tCB r tr) (dCall g δr) := fun tp G H σ ρ τ Q E P =>
  hr _ _ _ _ _ _ _ E (P.bind fun a τ1 x G1 H1 e1 E1 r1 P1 => by
    obtain ⟨c, hc', P3⟩ := P1.of
    exact hc G1 H1 x a c Q E1.g r1 hc' fun v G3 H3 e3 g3 r3 => P3 v G3 H3 e3.weak (E1.grow e3 g3) r3)
def dLst (a : DA) : DE := fun ρ τ => (a ρ τ).bind fun x τ1 => if x.length ≤ sizeLine then .ok (.lst x) τ1 else .no
def dTup (a : DA) : DE := fun ρ τ => (a ρ τ).bind fun x τ1 => if x.length ≤ sizeLine then .ok (.tup x) τ1 else .no
theorem rp_newL {G : GH} {p : Addr} {vs : List V} {ds : List DD} (n : G p = none) (r : RpA W.K W.cm G vs ds) : Rp W.K W.cm (G.upd p (.lst vs)) (.ref p) (.lst ds) := .lst upd_same (r.mono (GS.new n))
theorem rp_newT {G : GH} {p : Addr} {vs : List V} {ds : List DD} (n : G p = none) (r : RpA W.K W.cm G vs ds) : Rp W.K W.cm (G.upd p (.tup vs)) (.ref p) (.tup ds) := .tup upd_same (r.mono (GS.new n))
theorem dn_lst (hr : DnA W Wx tr δr) : Dn W Wx (tLst tr) (dLst δr) := fun tp G H σ ρ τ Q E P =>
  hr _ _ _ _ _ _ _ E (P.bind fun a τ1 x G1 H1 e1 E1 r1 P1 => by
    by_cases h : a.length ≤ sizeLine
    · rw [if_pos h] at P1
      exact ⟨by rw [r1.length]; exact h, fun p n => P1 _ _ _ (Ext.new n E1.g) (E1.new n) (rp_newL (E1.g.free n) r1)⟩
    · rw [if_neg h] at P1
      exact P1.elim)
theorem dn_tup (hr : DnA W Wx tr δr) : Dn W Wx (tTup tr) (dTup δr) := fun tp G H σ ρ τ Q E P =>
  hr _ _ _ _ _ _ _ E (P.bind fun a τ1 x G1 H1 e1 E1 r1 P1 => by
    by_cases h : a.length ≤ sizeLine
    · rw [if_pos h] at P1
      exact ⟨by rw [r1.length]; exact h, fun p n => P1 _ _ _ (Ext.new n E1.g) (E1.new n) (rp_newT (E1.g.free n) r1)⟩
    · rw [if_neg h] at P1
      exact P1.elim)
def dTest (a : DE) : DT := fun ρ τ => (a ρ τ).bind fun x τ1 => match x with
  | .bl b => .ok b τ1
  | _ => .no
theorem dt_test (ha : Dn W Wx ta δa) : DnT W Wx (tTest ta) (dTest δa) := fun tp G H σ ρ τ Q E P =>
  ha _ _ _ _ _ _ _ E (P.bind fun a τ1 x G1 H1 e1 E1 r1 P1 => by
    cases a <;> first | exact P1.elim | skip
    cases r1
    exact ⟨_, rfl, P1 _ G1 H1 Ext.refl E1 rfl⟩)
theorem dt_b (ha : Dn W Wx ta δa) : DnT W Wx (tB ta) (dTest δa) := dt_test ha
/-- the truth of a datum -/
def tru : DD → Option Bool
  | .non => some false
  | .bl b => some b
  | .int i => some (i != 0)
  | .str x => if x.length ≤ sizeLine then some ((x.length : Int) != 0) else none
  | .lst xs => some (!xs.isEmpty)
  | .tup xs => some (!xs.isEmpty)
  | .dic xs => some (!xs.isEmpty)
  | .obj _ _ => none
  | .exc _ _ => none
  | .raw _ => none
  | .ptr _ => none
  | .tux _ => none
def dTru (a : DE) : DT := fun ρ τ => (a ρ τ).bind fun x τ1 => R.of τ1 (tru x)
theorem RpA.isEmpty {K : PySem.W.Frag} {cm : CM} {H : GH} {vs : List V} {ds : List DD} (r : RpA K cm H vs ds) : vs.isEmpty = ds.isEmpty := by cases r <;> rfl
theorem RpK.isEmpty {K : PySem.W.Frag} {cm : CM} {H : GH} {vs : List (Key × V)} {ds : List (Key × DD)} (r : RpK K cm H vs ds) : vs.isEmpty = ds.isEmpty := by cases r <;> rfl
variable {tA tB' : TT} {δA δB : DT}
def dAnd (a b : DT) : DT := fun ρ τ => (a ρ τ).bind fun x τ1 => if x = true then b ρ τ1 else .ok false τ1
def dOr (a b : DT) : DT := fun ρ τ => (a ρ τ).bind fun x τ1 => if x = true then .ok true τ1 else b ρ τ1
theorem dt_and (ha : DnT W Wx tA δA) (hb : DnT W Wx tB' δB) : DnT W Wx (tAnd tA tB') (dAnd δA δB) := fun tp G H σ ρ τ Q E P =>
  ha _ _ _ _ _ _ _ E (P.bind fun a τ1 x G1 H1 e1 E1 r1 P1 => by
    cases r1
    cases a with
    | true => exact iteT (hb _ _ _ _ _ _ _ E1 P1)
    | false => exact iteF (P1 _ G1 H1 Ext.refl E1 rfl))
theorem dt_or (ha : DnT W Wx tA δA) (hb : DnT W Wx tB' δB) : DnT W Wx (tOr tA tB') (dOr δA δB) := fun tp G H σ ρ τ Q E P =>
  ha _ _ _ _ _ _ _ E (P.bind fun a τ1 x G1 H1 e1 E1 r1 P1 => by
    cases r1
    cases a with
    | true => exact iteT (P1 _ G1 H1 Ext.refl E1 rfl)
    | false => exact iteF (hb _ _ _ _ _ _ _ E1 P1))
/-- and, or, not of truths, as values -/
def dAndV (a b : DE) : DE := fun ρ τ => (a ρ τ).bind fun x τ1 => match x with
  | .bl true => b ρ τ1
  | .bl false => .ok (.bl false) τ1
  | _ => .no
def dOrV (a b : DE) : DE := fun ρ τ => (a ρ τ).bind fun x τ1 => match x with
  | .bl true => .ok (.bl true) τ1
  | .bl false => b ρ τ1
  | _ => .no
def dNotV (a : DE) : DE := fun ρ τ => (a ρ τ).bind fun x τ1 => match x with
  | .bl b => .ok (.bl (!b)) τ1
  | _ => .no
theorem dn_and (ha : Dn W Wx ta δa) (hb : Dn W Wx tb δb) : Dn W Wx (tAndV ta tb) (dAndV δa δb) := fun tp G H σ ρ τ Q E P =>
  ha _ _ _ _ _ _ _ E (P.bind fun a τ1 x G1 H1 e1 E1 r1 P1 => by
    cases a <;> first | exact P1.elim | skip
    cases r1
    rename_i b
    cases b with
    | true => exact ⟨_, rfl, iteT (hb _ _ _ _ _ _ _ E1 P1)⟩
    | false => exact ⟨_, rfl, iteF (P1 _ G1 H1 Ext.refl E1 (.bl _))⟩)
/-- a op b op c -/
def dChain (g g' : DD → DD → Option DD) (a b c : DE) : DE := fun ρ τ => (a ρ τ).bind fun x τ1 => (b ρ τ1).bind fun y τ2 => (R.of τ2 (g x y)).bind fun z τ3 => match z with
  | .bl true => (c ρ τ3).bind fun w τ4 => R.of τ4 (g' y w)
  | .bl false => .ok (.bl false) τ3
  | _ => .no
end
end Np
set_option Elab.async false
set_option linter.all false
set_option maxRecDepth 100000
set_option maxHeartbeats 4000000
namespace Np
open PySem PySem.Spec PyProof.Rows L2
section
variable {W : Wp} {Wx : L2.St → XK} {ta tb tc : TE} {δa δb δc : DE} {tr : TA} {δr : DA}
theorem RpA.atI {K : PySem.W.Frag} {cm : CM} {H : GH} {vs : List V} {ds : List DD} {i : Int} {d : DD} (r : RpA K cm H vs ds) (h : L2.atI ds i = some d) : ∃ v, L2.atI vs i = some v ∧ Rp K cm H v d := by
  unfold L2.atI at h ⊢
  rw [r.length]
  obtain ⟨j, h1, h2⟩ := Option.bind_eq_some_iff.mp h
  obtain ⟨v, e, rv⟩ := r.get h2
  exact ⟨v, by rw [h1]; exact e, rv⟩
def gIxL : DD → DD → Option DD
  | .lst ds, .int i => atI ds i
  | _, _ => none
def gIxT : DD → DD → Option DD
  | .tup ds, .int i => atI ds i
  | _, _ => none
def gIxS : DD → DD → Option DD
  | .str z, .int i => if z.length ≤ sizeLine then (atI z.cps.toList i).map fun c => .str ⟨#[c]⟩ else none
  | _, _ => none
theorem od_ixL : OpD W (rIxL W.K) gIxL := by
  intro G H x y a b c Q s ra rb e k
  cases a <;> cases b <;> first | (cases e; done) | skip
  cases ra with
  | lst h r =>
    obtain ⟨v, e1, rv⟩ := r.atI (show L2.atI _ _ = some c from e)
    exact ⟨_, _, _, v, rfl, rb.int_of, SqL.of (s _ _ h), e1, k _ G H ext_n s rv⟩
theorem od_ixT : OpD W (rIxT W.K) gIxT := by
  intro G H x y a b c Q s ra rb e k
  cases a <;> cases b <;> first | (cases e; done) | skip
  cases ra with
  | tup h r =>
    obtain ⟨v, e1, rv⟩ := r.atI (show L2.atI _ _ = some c from e)
    exact ⟨_, _, _, v, rfl, rb.int_of, SqT.of (s _ _ h), e1, k _ G H ext_n s rv⟩
theorem od_ixS : OpD W rIxS gIxS := by
  intro G H x y a b c Q s ra rb e k
  cases a <;> cases b <;> first | (cases e; done) | skip
  rename_i z i
  have e : (if z.length ≤ sizeLine then (L2.atI z.cps.toList i).map fun c => DD.str ⟨#[c]⟩ else none) = some c := e
  split at e
  · rename_i hz
    obtain ⟨n, h1, h2⟩ := Option.map_eq_some_iff.mp e
    cases h2
    exact ⟨z, i, n, ra.str_of, rb.int_of, hz, h1, k _ G H ext_n s (.str _)⟩
  · cases e
abbrev DO := PEnv → TS' → R (Option Int)
abbrev rO : Option Addr → GH → Option Int → Option Int → Prop := fun _ _ b c => b = c
abbrev DnO (W : Wp) (Wx : L2.St → XK) (t : TO) (δ : DO) : Prop := DnG W Wx rO t δ
def dNoP : DO := fun _ τ => .ok none τ
def dPart (a : DE) : DO := fun ρ τ => (a ρ τ).bind fun x τ1 => match x with
  | .int i => .ok (some i) τ1
  | _ => .no
theorem do_none : DnO W Wx tNoPart dNoP := fun tp G H σ ρ τ Q E P => P none G H Ext.refl E rfl
theorem do_some (ha : Dn W Wx ta δa) : DnO W Wx (tPart ta) (dPart δa) := fun tp G H σ ρ τ Q E P =>
  ha _ _ _ _ _ _ _ E (P.bind fun a τ1 x G1 H1 e1 E1 r1 P1 => by
    cases a <;> first | exact P1.elim | skip
    cases r1
    exact ⟨_, rfl, P1 _ G1 H1 Ext.refl E1 rfl⟩)
def SlD (W : Wp) (r : V → Option Int → Option Int → Hp → VK → Prop) (g : DD → Option Int → Option Int → Option DD) : Prop := ∀ (G : GH) (H : Hp) (x : V) (a c : DD) (lo hi : Option Int) (Q : VK), SB W G H → Rp W.K W.cm G x a → g a lo hi = some c →
  (∀ v G' H', Ext none G H G' H' → SB W G' H' → Rp W.K W.cm G' v c → Q v H') → r x lo hi H Q
def dSl (g : DD → Option Int → Option Int → Option DD) (a : DE) (l h : DO) : DE := fun ρ τ => (a ρ τ).bind fun x τ1 => (l ρ τ1).bind fun lo τ2 => (h ρ τ2).bind fun hi τ3 => R.of τ3 (g x lo hi)
theorem dn_slice {tl th : TO} {δl δh : DO} {r : V → Option Int → Option Int → Hp → VK → Prop} {g : DD → Option Int → Option Int → Option DD} (hs : SlD W r g) (ha : Dn W Wx ta δa) (hl : DnO W Wx tl δl) (hh : DnO W Wx th δh) : Dn W Wx (tSl r ta tl th) (dSl g δa δl δh) := fun tp G H σ ρ τ Q E P =>
  ha _ _ _ _ _ _ _ E (P.bind fun a τ1 x G1 H1 e1 E1 r1 P1 => hl _ _ _ _ _ _ _ E1 (P1.bind fun lo τ2 y G2 H2 e2 E2 r2 P2 => hh _ _ _ _ _ _ _ E2 (P2.bind fun hi τ3 z G3 H3 e3 E3 r3 P3 => by
    cases r2
    cases r3
    obtain ⟨c, hc, P4⟩ := P3.of
    exact hs G3 H3 x a c lo hi Q E3.g (Rp.mono (e2.g.trans e3.g) r1) hc fun v G4 H4 e4 g4 r4 => P4 v G4 H4 e4.weak (E3.grow e4 g4) r4)))
def cutL {α : Type} (xs : List α) (lo hi : Option Int) : List α := (xs.drop (HT.sIx xs.length 0 lo)).take (HT.sIx xs.length xs.length hi - HT.sIx xs.length 0 lo)
theorem RpA.cut {K : PySem.W.Frag} {cm : CM} {H : GH} {vs : List V} {ds : List DD} (r : RpA K cm H vs ds) (lo hi : Option Int) : RpA K cm H (cutV vs lo hi) (cutL ds lo hi) := by
  unfold cutV cutL
  rw [r.length]
  exact (r.drop _).take _
def gSlL : DD → Option Int → Option Int → Option DD
  | .lst ds, lo, hi => some (.lst (cutL ds lo hi))
  | _, _, _ => none
def gSlS : DD → Option Int → Option Int → Option DD
  | .str z, lo, hi => if z.length ≤ sizeLine then some (.str (cutS z lo hi)) else none
  | _, _, _ => none
theorem sd_list : SlD W (rSlL W.K) gSlL := by
  intro G H x a c lo hi Q s ra e k
  cases a <;> first | (cases e; done) | skip
  cases ra with
  | lst h r =>
    cases e
    exact ⟨_, _, rfl, SqL.of (s _ _ h), fun p n => k _ _ _ (Ext.new n s) (s.both n) (rp_newL (s.free n) (r.cut lo hi))⟩
theorem sd_str : SlD W rSlS gSlS := by
  intro G H x a c lo hi Q s ra e k
  cases a <;> first | (cases e; done) | skip
  rename_i z
  have e : (if z.length ≤ sizeLine then some (DD.str (cutS z lo hi)) else none) = some c := e
  split at e
  · rename_i hz
    cases e
    exact ⟨z, ra.str_of, hz, k _ G H ext_n s (.str _)⟩
  · cases e
def gRevL : DD → Option DD
  | .lst ds => some (.lst ds.reverse)
  | _ => none
def gRevS : DD → Option DD
  | .str z => if z.length ≤ sizeLine then some (.str (revS z)) else none
  | _ => none
theorem dn_revL (ha : Dn W Wx ta δa) : Dn W Wx (tRevL W.K ta) (dUn gRevL δa) := fun tp G H σ ρ τ Q E P =>
  ha _ _ _ _ _ _ _ E (P.bind fun a τ1 x G1 H1 e1 E1 r1 P1 => by
    obtain ⟨c, hc, P2⟩ := P1.of
    cases r1 <;> first | (cases hc; done) | skip
    rename_i h r
    cases hc
    exact ⟨_, _, rfl, SqL.of (E1.g _ _ h), fun p n => P2 _ _ _ (Ext.new n E1.g) (E1.new n) (rp_newL (E1.g.free n) r.reverse)⟩)
def gCat : DD → DD → Option DD
  | .lst a, .lst b => if a.length + b.length ≤ sizeLine then some (.lst (a ++ b)) else none
  | _, _ => none
theorem od_cat : OpD W rCat gCat := by
  intro G H x y a b c Q s ra rb e k
  cases ra <;> first | (cases e; done) | skip
  cases rb <;> first | (cases e; done) | skip
  rename_i p xs ds h r q ys es h' r'
  have e : (if ds.length + es.length ≤ sizeLine then some (DD.lst (ds ++ es)) else none) = some c := e
  split at e
  · rename_i hz
    cases e
    exact ⟨p, q, xs, ys, rfl, rfl, s _ _ h, s _ _ h', by rw [r.length, r'.length]; exact hz, fun p n => k _ _ _ (Ext.new n s) (s.both n) (rp_newL (s.free n) (r.append r'))⟩
  · cases e
def gCatT : DD → DD → Option DD
  | .tup a, .tup b => if a.length + b.length ≤ sizeLine then some (.tup (a ++ b)) else none
  | _, _ => none
def gRep : DD → DD → Option DD
  | .lst a, .int k => if -(2 ^ 63) ≤ k ∧ k < 2 ^ 63 ∧ a.length * k.toNat ≤ sizeLine then some (.lst (List.replicate k.toNat a).flatten) else none
  | _, _ => none
theorem RpA.rep {K : PySem.W.Frag} {cm : CM} {H : GH} {vs : List V} {ds : List DD} (r : RpA K cm H vs ds) : ∀ n, RpA K cm H (List.replicate n vs).flatten (List.replicate n ds).flatten
  | 0 => .nil
  | n + 1 => by
    rw [List.replicate_succ, List.flatten_cons, List.replicate_succ, List.flatten_cons]
    exact r.append (r.rep n)
def flat? : DD → Option V
  | .non => some .non
  | .bl b => some (.bl b)
  | .int b => some (.int b)
  | .str b => some (.str b)
  | _ => none
def flats? : List DD → Option (List V)
  | [] => some []
  | d :: ds => match flat? d, flats? ds with
    | some v, some vs => some (v :: vs)
    | _, _ => none
@[simp] theorem flats?_strs : ∀ ns : List Str, flats? (ns.map DD.str) = some (ns.map V.str)
  | [] => rfl
  | n :: ns => by rw [List.map_cons, flats?, flats?_strs ns]; rfl
@[simp] theorem flats?_ints : ∀ ns : List Int, flats? (ns.map DD.int) = some (ns.map V.int)
  | [] => rfl
  | n :: ns => by rw [List.map_cons, flats?, flats?_ints ns]; rfl
def items? : DD → Option (List DD)
  | .lst ds => some ds
  | .tup ds => some ds
  | .tux ds => some ds
  | _ => none
end
end Np
set_option Elab.async false
set_option linter.all false
set_option maxRecDepth 100000
set_option maxHeartbeats 4000000
namespace Np
open PySem PySem.Spec PyProof.Rows L2
mutual
def toPy : DD → Option PyData
  | .non => some .none
  | .bl b => some (.bool b)
  | .int i => some (.int i)
  | .str x => some (.str x)
  | .lst ds => (toPys ds).map .list
  | .tup ds => (toPys ds).map .tuple
  | _ => none
def toPys : List DD → Option (List PyData)
  | [] => some []
  | d :: ds => match toPy d, toPys ds with
    | some p, some ps => some (p :: ps)
    | _, _ => none
end
section
variable {W : Wp} {Wx : L2.St → XK} {ta tb tc : TE} {δa δb δc : DE} {tr : TA} {δr : DA}
mutual
theorem Rp.dp {K : PySem.W.Frag} {cm : CM} {H : GH} : ∀ {v : V} {d : DD} {p : PyData}, Rp K cm H v d → toPy d = some p → Dp K H v p
  | _, _, _, .non, h => by rw [toPy] at h; cases h; exact .non
  | _, _, _, .bl b, h => by rw [toPy] at h; cases h; exact .bl b
  | _, _, _, .int b, h => by rw [toPy] at h; cases h; exact .int b
  | _, _, _, .str b, h => by rw [toPy] at h; cases h; exact .str b
  | _, _, _, .lst a r, h => by
    rw [toPy] at h
    obtain ⟨ps, h1, h2⟩ := Option.map_eq_some_iff.mp h
    cases h2
    exact .lst (SqL.of a) (RpA.dps r h1)
  | _, _, _, .tup a r, h => by
    rw [toPy] at h
    obtain ⟨ps, h1, h2⟩ := Option.map_eq_some_iff.mp h
    cases h2
    exact .tup (SqT.of a) (RpA.dps r h1)
  | _, _, _, .dic a r, h => by rw [toPy] at h <;> first | (cases h; done) | (intros; contradiction)
  | _, _, _, .obj a r, h => by rw [toPy] at h <;> first | (cases h; done) | (intros; contradiction)
  | _, _, _, .exc a z q b r, h => by rw [toPy] at h <;> first | (cases h; done) | (intros; contradiction)
  | _, _, _, .raw a, h => by rw [toPy] at h <;> first | (cases h; done) | (intros; contradiction)
  | _, _, _, .ptr a, h => by rw [toPy] at h <;> first | (cases h; done) | (intros; contradiction)
  | _, _, _, .tux a n r, h => by rw [toPy] at h <;> first | (cases h; done) | (intros; contradiction)
theorem RpA.dps {K : PySem.W.Frag} {cm : CM} {H : GH} : ∀ {v : List V} {d : List DD} {p : List PyData}, RpA K cm H v d → toPys d = some p → DpAll K H v p
  | _, _, _, .nil, h => by rw [toPys] at h; cases h; exact .nil
  | _, _, _, .cons r rs, h => by
    rw [toPys] at h
    split at h
    · rename_i p ps h1 h2
      cases h
      exact .cons (Rp.dp r h1) (RpA.dps rs h2)
    · cases h
end
def py2 (g : PyData → PyData → Option DD) (a b : DD) : Option DD := match toPy a, toPy b with
  | some p, some q => if SeqAt.shaped p = true ∧ SeqAt.shaped q = true then g p q else none
  | _, _ => none
abbrev gEqD := py2 fun p q => some (.bl (PyData.eqv p q))
abbrev gNeD := py2 fun p q => some (.bl (!PyData.eqv p q))
theorem py2_eq {g : PyData → PyData → Option DD} {a b c : DD} (h : py2 g a b = some c) : ∃ p q, toPy a = some p ∧ toPy b = some q ∧ SeqAt.shaped p = true ∧ SeqAt.shaped q = true ∧ g p q = some c := by
  unfold py2 at h
  split at h
  · rename_i p q h1 h2
    split at h
    · rename_i h3
      exact ⟨p, q, h1, h2, h3.1, h3.2, h⟩
    · cases h
  · cases h
theorem od_eqD : OpD W (rEqD W.K) gEqD := by
  intro G H x y a b c Q s ra rb e k
  obtain ⟨p, q, h1, h2, h3, h4, h5⟩ := py2_eq e
  cases h5
  exact ⟨p, q, (ra.mono s.gs).dp h1, (rb.mono s.gs).dp h2, h3, h4, k _ G H ext_n s (.bl _)⟩
theorem od_neD : OpD W (rNeD W.K) gNeD := by
  intro G H x y a b c Q s ra rb e k
  obtain ⟨p, q, h1, h2, h3, h4, h5⟩ := py2_eq e
  cases h5
  exact ⟨p, q, (ra.mono s.gs).dp h1, (rb.mono s.gs).dp h2, h3, h4, k _ G H ext_n s (.bl _)⟩
def c1 (g : DD → Option DD) : List DD → Option DD
  | [d] => g d
  | _ => none
def c2 (g : DD → DD → Option DD) : List DD → Option DD
  | [d, e] => g d e
  | _ => none
theorem c1_eq {g : DD → Option DD} {ds : List DD} {c : DD} (h : c1 g ds = some c) : ∃ d, ds = [d] ∧ g d = some c := by
  unfold c1 at h
  split at h
  · exact ⟨_, rfl, h⟩
  · cases h
theorem c2_eq {g : DD → DD → Option DD} {ds : List DD} {c : DD} (h : c2 g ds = some c) : ∃ d e, ds = [d, e] ∧ g d e = some c := by
  unfold c2 at h
  split at h
  · exact ⟨_, _, rfl, h⟩
  · cases h
def gLenS : DD → Option DD
  | .str z => if z.length ≤ sizeLine then some (.int z.length) else none
  | _ => none
def gLenL (d : DD) : Option DD := (items? d).map fun ds => .int ds.length
theorem cd_lenS : CallD W (fun xs H Q => ∃ z, xs = [.str z] ∧ z.length ≤ sizeLine ∧ Q (.int z.length) H) (c1 gLenS) := by
  intro G H x a c Q s ra e k
  replace e := c1_eq e
  obtain ⟨d, rfl, e⟩ := e
  cases ra with | cons r rs =>
  cases rs
  cases d <;> first | (cases e; done) | skip
  rename_i z
  have e : (if z.length ≤ sizeLine then some (DD.int z.length) else none) = some c := e
  split at e
  · rename_i hz
    cases e
    exact ⟨z, by rw [r.str_of], hz, k _ G H ext_n s (.int _)⟩
  · cases e
theorem cd_lenL : CallD W (rLenK W.K) (c1 gLenL) := by
  intro G H x a c Q s ra e k
  replace e := c1_eq e
  obtain ⟨d, rfl, e⟩ := e
  cases ra with | cons r rs =>
  cases rs
  obtain ⟨ds, h1, h2⟩ := Option.map_eq_some_iff.mp e
  cases h2
  cases r <;> first | (cases h1; done) | skip
  · rename_i h r
    cases h1
    exact ⟨_, _, rfl, .inl (SqL.of (s _ _ h)), k _ G H ext_n s (by rw [r.length]; exact .int _)⟩
  · rename_i h r
    cases h1
    exact ⟨_, _, rfl, .inr (SqT.of (s _ _ h)), k _ G H ext_n s (by rw [r.length]; exact .int _)⟩
  · rename_i h _ r
    cases h1
    exact ⟨_, _, rfl, .inr (.inl (.inr ⟨_, s _ _ h⟩)), k _ G H ext_n s (by rw [r.length]; exact .int _)⟩
def gAbs : DD → Option DD
  | .int i => some (.int (if i < 0 then -i else i))
  | _ => none
abbrev gDivmod := oInt fun i j => if CDiv i j then some (.tup [.int (i / j), .int (i % j)]) else none
theorem cd_divmod : CallD W (fun xs H Q => ∃ i j, xs = [.int i, .int j] ∧ CDiv i j ∧ ∀ p, H p = none → Q (.ref p) (upd H p (.tup [.int (i / j), .int (i % j)]))) (c2 gDivmod) := by
  intro G H x a c Q s ra e k
  replace e := c2_eq e
  obtain ⟨d, d', rfl, e⟩ := e
  cases ra with | cons r rs =>
  cases rs with | cons r' rs =>
  cases rs
  cases d <;> cases d' <;> first | (cases e; done) | skip
  rename_i i j
  have e : (if CDiv i j then some (DD.tup [.int (i / j), .int (i % j)]) else none) = some c := e
  split at e
  · rename_i hz
    cases e
    exact ⟨i, j, by rw [r.int_of, r'.int_of], hz, fun p n => k _ _ _ (Ext.new n s) (s.both n) (rp_newT (s.free n) (.cons (.int _) (.cons (.int _) .nil)))⟩
  · cases e
def gStrI : DD → Option DD
  | .int i => if i.natAbs.log2 < 1920 then some (.str (toString i)) else none
  | _ => none
def gIntS : DD → Option DD
  | .str a => if a.length ≤ 640 then (PySem.intText? a).map .int else none
  | _ => none
def gInt1 : DD → Option DD
  | .int a => some (.int a)
  | .bl b => some (.int (if b then 1 else 0))
  | _ => none
theorem cd_int1 : CallD W (fun xs H Q => (∃ i, xs = [.int i] ∧ Q (.int i) H) ∨ ∃ k, xs = [.bl k] ∧ Q (.int (if k then 1 else 0)) H) (c1 gInt1) := by
  intro G H x a c Q s ra e k
  replace e := c1_eq e
  obtain ⟨d, rfl, e⟩ := e
  cases ra with | cons r rs =>
  cases rs
  cases d <;> first | (cases e; done) | skip
  · cases e
    exact .inr ⟨_, by rw [r.bl_of], k _ G H ext_n s (.int _)⟩
  · cases e
    exact .inl ⟨_, by rw [r.int_of], k _ G H ext_n s (.int _)⟩
def gSum : DD → Option DD
  | .lst ds => (ints? ds).map fun ns => .int ns.sum
  | _ => none
theorem cd_sum : CallD W (rSum W.K) (c1 gSum) := by
  intro G H x a c Q s ra e k
  replace e := c1_eq e
  obtain ⟨d, rfl, e⟩ := e
  cases ra with | cons r rs =>
  cases rs
  cases r <;> first | (cases e; done) | skip
  rename_i h r
  obtain ⟨ns, h1, h2⟩ := Option.map_eq_some_iff.mp e
  cases h2
  cases ints?_eq h1
  exact ⟨_, ns, rfl, by rw [← r.ints_of]; exact SqL.of (s _ _ h), k _ G H ext_n s (.int _)⟩
def maxL : Int → List Int → Int
  | m, [] => m
  | m, n :: ns => maxL (max m n) ns
def minL : Int → List Int → Int
  | m, [] => m
  | m, n :: ns => minL (min m n) ns
theorem maxL_max : ∀ (m : Int) (ns : List Int), (maxL m ns = m ∨ maxL m ns ∈ ns) ∧ m ≤ maxL m ns ∧ ∀ y ∈ ns, y ≤ maxL m ns
  | m, [] => ⟨.inl rfl, Int.le_refl _, fun _ h => by cases h⟩
  | m, n :: ns => by
    obtain ⟨a, b, c⟩ := maxL_max (max m n) ns
    show (maxL (max m n) ns = m ∨ maxL (max m n) ns ∈ n :: ns) ∧ m ≤ maxL (max m n) ns ∧ ∀ y ∈ n :: ns, y ≤ maxL (max m n) ns
    refine ⟨?_, by omega, fun y hy => ?_⟩
    · rcases a with a | a
      · by_cases h : m ≤ n
        · right; rw [a, Int.max_eq_right h]; exact List.mem_cons_self
        · left; rw [a]; omega
      · exact .inr (List.mem_cons_of_mem _ a)
    · rcases List.mem_cons.mp hy with rfl | hy
      · omega
      · exact c y hy
def gMaxL : DD → Option DD
  | .lst ds => match ints? ds with
    | some (n :: ns) => some (.int (maxL n ns))
    | _ => none
  | _ => none
theorem cd_maxL : CallD W (rMax W.K) (c1 gMaxL) := by
  intro G H x a c Q s ra e k
  replace e := c1_eq e
  obtain ⟨d, rfl, e⟩ := e
  cases ra with | cons r rs =>
  cases rs
  cases r <;> first | (cases e; done) | skip
  rename_i ds h r
  unfold gMaxL at e
  simp only at e
  split at e
  · rename_i n ns h1
    cases e
    cases ints?_eq h1
    refine ⟨_, n :: ns, rfl, by rw [← r.ints_of]; exact SqL.of (s _ _ h), Nat.succ_pos _, fun m hm hy => ?_⟩
    obtain ⟨m1, m2, m3⟩ := maxL_max n ns
    have e : m = maxL n ns := by
      have h1 : maxL n ns ≤ m := by
        rcases m1 with z | z
        · rw [z]; exact hy _ List.mem_cons_self
        · exact hy _ (List.mem_cons_of_mem _ z)
      have h2 : m ≤ maxL n ns := by
        rcases List.mem_cons.mp hm with z | z
        · rw [z]; exact m2
        · exact m3 _ z
      omega
    rw [e]
    exact k _ G H ext_n s (.int _)
  · cases e
def gAllL : DD → Option DD
  | .lst ds => (bls? ds).map fun bs => .bl (bs.all id)
  | _ => none
def gAnyL : DD → Option DD
  | .lst ds => (bls? ds).map fun bs => .bl (bs.any id)
  | _ => none
def gList (d : DD) : Option DD := (items? d).map .lst
theorem cd_list : CallD W (rListK W.K) (c1 gList) := by
  intro G H x a c Q s ra e k
  replace e := c1_eq e
  obtain ⟨d, rfl, e⟩ := e
  cases ra with | cons r rs =>
  cases rs
  obtain ⟨ds, h1, h2⟩ := Option.map_eq_some_iff.mp e
  cases h2
  cases r <;> first | (cases h1; done) | skip
  · rename_i h r
    cases h1
    exact ⟨_, _, rfl, .inl (SqL.of (s _ _ h)), fun p n => k _ _ _ (Ext.new n s) (s.both n) (rp_newL (s.free n) r)⟩
  · rename_i h r
    cases h1
    exact ⟨_, _, rfl, .inr (SqT.of (s _ _ h)), fun p n => k _ _ _ (Ext.new n s) (s.both n) (rp_newL (s.free n) r)⟩
  · rename_i h _ r
    cases h1
    exact ⟨_, _, rfl, .inr (.inl (.inr ⟨_, s _ _ h⟩)), fun p n => k _ _ _ (Ext.new n s) (s.both n) (rp_newL (s.free n) r)⟩
def gTuple : DD → Option DD
  | .lst ds => some (.tup ds)
  | .tup ds => some (.tup ds)
  | _ => none
def signs (z : Str) : List DD := z.cps.toList.map fun c => DD.str ⟨#[c]⟩
def gListS : DD → Option DD
  | .str z => if z.length ≤ sizeLine then some (.lst (signs z)) else none
  | _ => none
def tyN : DD → Option String
  | .non => some "NoneType"
  | .bl _ => some "bool"
  | .int _ => some "int"
  | .str _ => some "str"
  | .lst _ => some "list"
  | .tup _ => some "tuple"
  | .dic _ => some "dict"
  | .obj _ _ => none
  | .exc _ _ => none
  | .raw _ => none
  | .ptr _ => none
  | .tux _ => none
def isT (T : String) (n : String) : Bool := n == T || (n == "bool" && T == "int")
def gIsi (T : String) (d : DD) : Option DD := (tyN d).map fun n => .bl (isT T n)
def gIsi2 (T U : String) (d : DD) : Option DD := (tyN d).map fun n => .bl (isT T n || isT U n)
end
end Np
set_option Elab.async false
set_option linter.all false
set_option maxRecDepth 100000
set_option maxHeartbeats 4000000
namespace Np
open PySem PySem.Spec PyProof.Rows L2
section
variable {W : Wp} {Wx : L2.St → XK} {ta tb tc : TE} {δa δb δc : DE} {tr : TA} {δr : DA}
def MtD (W : Wp) (r : V → List V → Hp → VK → Prop) (g : Str → List DD → Option DD) : Prop := ∀ (G : GH) (H : Hp) (z : Str) (xs : List V) (as : List DD) (c : DD) (Q : VK), SB W G H → RpA W.K W.cm G xs as → g z as = some c →
  (∀ v G' H', Ext none G H G' H' → SB W G' H' → Rp W.K W.cm G' v c → Q v H') → r (.str z) xs H Q
def dM0 (g : Str → List DD → Option DD) (o : DE) : DE := fun ρ τ => (o ρ τ).bind fun x τ1 => match x with
  | .str z => R.of τ1 (g z [])
  | _ => .no
def dM1 (g : Str → List DD → Option DD) (o a : DE) : DE := fun ρ τ => (o ρ τ).bind fun x τ1 => match x with
  | .str z => (a ρ τ1).bind fun y τ2 => R.of τ2 (g z [y])
  | _ => .no
def dMs (g : Str → List DD → Option DD) (o : DE) (a : DA) : DE := fun ρ τ => (o ρ τ).bind fun x τ1 => match x with
  | .str z => (a ρ τ1).bind fun y τ2 => R.of τ2 (g z y)
  | _ => .no
theorem dn_m1 {r : V → List V → Hp → VK → Prop} {g : Str → List DD → Option DD} (h : MtD W r g) (ha : Dn W Wx ta δa) (hb : Dn W Wx tb δb) : Dn W Wx (tM1 r ta tb) (dM1 g δa δb) := fun tp G H σ ρ τ Q E P =>
  ha _ _ _ _ _ _ _ E (P.bind fun a τ1 x G1 H1 e1 E1 r1 P1 => by
    cases r1 <;> first | exact P1.elim | skip
    refine ⟨⟨_, rfl⟩, hb _ _ _ _ _ _ _ E1 (Pg.bind P1 fun b τ2 y G2 H2 e2 E2 r2 P2 => ?_)⟩
    obtain ⟨c, hc, P3⟩ := P2.of
    exact h G2 H2 _ [y] [b] c Q E2.g (.cons r2 .nil) hc fun v G3 H3 e3 g3 r3 => P3 v G3 H3 e3.weak (E2.grow e3 g3) r3)
theorem dn_bmS {r : V → List V → Hp → VK → Prop} {g : Str → List DD → Option DD} (h : MtD W r g) (ha : Dn W Wx ta δa) (hr : DnA W Wx tr δr) : Dn W Wx (tBM W.K "str" r ta tr) (dMs g δa δr) := fun tp G H σ ρ τ Q E P =>
  ha _ _ _ _ _ _ _ E (P.bind fun a τ1 x G1 H1 e1 E1 r1 P1 => by
    cases r1 <;> first | exact P1.elim | skip
    refine ⟨rfl, hr _ _ _ _ _ _ _ E1 (Pg.bind P1 fun b τ2 y G2 H2 e2 E2 r2 P2 => ?_)⟩
    obtain ⟨c, hc, P3⟩ := P2.of
    exact h G2 H2 _ y b c Q E2.g r2 hc fun v G3 H3 e3 g3 r3 => P3 v G3 H3 e3.weak (E2.grow e3 g3) r3)
def m0 (g : Str → Option DD) : Str → List DD → Option DD
  | z, [] => g z
  | _, _ => none
def m1S (g : Str → Str → Option DD) : Str → List DD → Option DD
  | z, [.str y] => g z y
  | _, _ => none
def m1I (g : Str → Int → Option DD) : Str → List DD → Option DD
  | z, [.int y] => g z y
  | _, _ => none
theorem m1S_eq {g : Str → Str → Option DD} {z : Str} {as : List DD} {c : DD} (h : m1S g z as = some c) : ∃ y, as = [.str y] ∧ g z y = some c := by
  unfold m1S at h
  split at h
  · exact ⟨_, rfl, h⟩
  · cases h
theorem m1I_eq {g : Str → Int → Option DD} {z : Str} {as : List DD} {c : DD} (h : m1I g z as = some c) : ∃ y, as = [.int y] ∧ g z y = some c := by
  unfold m1I at h
  split at h
  · exact ⟨_, rfl, h⟩
  · cases h
theorem ifs {α : Type} {p : Prop} [Decidable p] {a c : α} (h : (if p then some a else none) = some c) : p ∧ a = c := by
  split at h
  · rename_i q; exact ⟨q, Option.some.inj h⟩
  · cases h
abbrev gSplit := m1S fun z y => if (y.length == 0) = false ∧ z.length + 2 ≤ sizeLine then some (.lst ((Txt.split z y).map .str)) else none
theorem md_split : MtD W (fun x xs H Q => ∃ a b, x = .str a ∧ xs = [.str b] ∧ (b.length == 0) = false ∧ a.length + 2 ≤ sizeLine ∧ rNewStrs (Txt.split a b) H Q) gSplit := by
  intro G H z xs as c Q s ra e k
  obtain ⟨y, rfl, e⟩ := m1S_eq e
  cases ra with | cons r rs =>
  cases rs
  obtain ⟨h, rfl⟩ := ifs e
  exact ⟨z, y, rfl, by rw [r.str_of], h.1, h.2, fun p n => k _ _ _ (Ext.new n s) (s.both n) (rp_newL (s.free n) (RpA.strs _))⟩
abbrev gLjust := m1I fun z y => if PadOk y = true then some (.str (Txt.ljust z y)) else none
theorem md_ljust : MtD W (fun x xs H Q => ∃ (a : Str) (i : Int), x = .str a ∧ xs = [.int i] ∧ PadOk i = true ∧ Q (.str (Txt.ljust a i)) H) gLjust := by
  intro G H z xs as c Q s ra e k
  obtain ⟨y, rfl, e⟩ := m1I_eq e
  cases ra with | cons r rs =>
  cases rs
  obtain ⟨h, rfl⟩ := ifs e
  exact ⟨z, y, rfl, by rw [r.int_of], h, k _ G H ext_n s (.str _)⟩
def gJoin (z : Str) : List DD → Option DD
  | [d] => match (items? d).bind strs? with
    | some ys => if (ys.map (·.length)).sum + ys.length * z.length ≤ 16777216 then some (.str (Txt.join z ys)) else none
    | none => none
  | _ => none
theorem md_join : MtD W (rJoinK W.K) gJoin := by
  intro G H z xs as c Q s ra e k
  unfold gJoin at e
  split at e
  · rename_i d
    cases ra with | cons r rs =>
    cases rs
    split at e
    · rename_i ys h1
      obtain ⟨h, rfl⟩ := ifs e
      obtain ⟨ds, h3, h4⟩ := Option.bind_eq_some_iff.mp h1
      cases strs?_eq h4
      cases r <;> first | (cases h3; done) | skip
      · rename_i q r
        cases h3
        exact ⟨z, _, ys, rfl, rfl, .inl (by rw [← r.strs_of]; exact SqL.of (s _ _ q)), h, k _ G H ext_n s (.str _)⟩
      · rename_i q r
        cases h3
        exact ⟨z, _, ys, rfl, rfl, .inr (by rw [← r.strs_of]; exact SqT.of (s _ _ q)), h, k _ G H ext_n s (.str _)⟩
      · rename_i q _ r
        cases h3
        exact ⟨z, _, ys, rfl, rfl, .inr (by rw [← r.strs_of]; exact .inl (.inr ⟨_, s _ _ q⟩)), h, k _ G H ext_n s (.str _)⟩
    · cases e
  · cases e
def gFmt : DD → Option DD
  | .str y => if y.length ≤ sizeLine then some (.str y) else none
  | .int i => if i.natAbs.log2 < 1920 then some (.str (toString i)) else none
  | _ => none
theorem dn_fmt (ha : Dn W Wx ta δa) : Dn W Wx (tFmt ta) (dUn gFmt δa) := fun tp G H σ ρ τ Q E P =>
  ha _ _ _ _ _ _ _ E (P.bind fun a τ1 x G1 H1 e1 E1 r1 P1 => by
    obtain ⟨c, hc, P2⟩ := P1.of
    cases r1 <;> first | (cases hc; done) | skip
    · obtain ⟨h, rfl⟩ := ifs hc
      exact .inr ⟨_, rfl, h, P2 _ _ _ Ext.refl E1 (.str _)⟩
    · obtain ⟨h, rfl⟩ := ifs hc
      exact .inl ⟨_, rfl, h, P2 _ _ _ Ext.refl E1 (.str _)⟩)
def dJs : List DE → Str → DE
  | [], acc => fun _ τ => .ok (.str acc) τ
  | d :: ds, acc => fun ρ τ => (d ρ τ).bind fun x τ1 => match x with
    | .str y => if (acc ++ y).length ≤ sizeLine then dJs ds (acc ++ y) ρ τ1 else .no
    | _ => .no
inductive DnL (W : Wp) (Wx : L2.St → XK) : List TE → List DE → Prop
  | nil : DnL W Wx [] []
  | cons {t : TE} {δ : DE} {ts : List TE} {δs : List DE} : Dn W Wx t δ → DnL W Wx ts δs → DnL W Wx (t :: ts) (δ :: δs)
theorem dn_js {ts : List TE} {δs : List DE} (h : DnL W Wx ts δs) : ∀ acc, Dn W Wx (fun σ H Q => tJs ts acc σ H fun out H1 => Q (.str out) H1) (dJs δs acc) := by
  induction h with
  | nil => exact fun acc tp G H σ ρ τ Q E P => P _ G H Ext.refl E (.str _)
  | cons hd _ ih =>
    exact fun acc tp G H σ ρ τ Q E P => hd _ _ _ _ _ _ _ E (P.bind fun a τ1 x G1 H1 e1 E1 r1 P1 => by
      cases r1 <;> first | exact P1.elim | skip
      rename_i y
      by_cases hh : (acc ++ y).length ≤ sizeLine
      · refine ⟨y, rfl, hh, ih _ _ _ _ _ _ _ _ E1 ?_⟩
        simp only [if_pos hh] at P1
        exact P1
      · simp only [if_neg hh] at P1
        exact P1.elim)
theorem dn_joined {ts : List TE} {δs : List DE} (h : DnL W Wx ts δs) : Dn W Wx (fun σ H Q => tJs ts Str.empty σ H fun out H1 => Q (.str out) H1) (dJs δs Str.empty) := dn_js h _
structure ItR (W : Wp) (G : GH) (J : It) (ds : List DD) : Prop where
  go : ∀ i H, SB W G H → i < ds.length → J.go i H
  stop : ∀ H, SB W G H → J.stop ds.length H
  yld : ∀ i d Gc H x H', GS G Gc → SB W Gc H → ds[i]? = some d → J.yld i H x H' → ∃ G', Ext none Gc H G' H' ∧ SB W G' H' ∧ Rp W.K W.cm G' x d
abbrev rI' (W : Wp) : Option Addr → GH → It → List DD → Prop := fun _ G J ds => ItR W G J ds
abbrev DI := PEnv → TS' → R (List DD)
abbrev DnI (W : Wp) (Wx : L2.St → XK) (t : TI) (δ : DI) : Prop := DnG W Wx (rI' W) t δ
theorem ItR.mono {G G' : GH} {J : It} {ds : List DD} (h : ItR W G J ds) (s : GS G G') : ItR W G' J ds :=
  ⟨fun i H s' => h.go i H (s.sb s'), fun H s' => h.stop H (s.sb s'), fun i d Gc H x H' s' => h.yld i d Gc H x H' (s.trans s')⟩
theorem ItR.list {G : GH} {a : Addr} {xs : List V} {ds : List DD} (h : G a = some (.lst xs)) (r : RpA W.K W.cm G xs ds) : ItR W G (Itl W.K a) ds := by
  have w := walk_list (K := W.K) (a := a) (xs := xs)
  rw [r.length] at w
  refine ⟨fun i H s hi => w.goes i H hi (SqL.of (s _ _ h)), fun H s => w.stops H (SqL.of (s _ _ h)), fun i d Gc H x H' s s' hd y => ?_⟩
  obtain ⟨v, e, rv⟩ := r.get hd
  obtain ⟨rfl, e'⟩ := w.yields i H x H' (List.getElem?_eq_some_iff.mp hd).1 (SqL.of (s' _ _ (s _ _ h))) y
  rw [e] at e'
  cases e'
  exact ⟨Gc, ext_n, s', rv.mono s⟩
theorem ItR.tupS {G : GH} {a : Addr} {xs : List V} {ds : List DD} (h : SqT W.K G.hp a xs) (r : RpA W.K W.cm G xs ds) : ItR W G (Itt W.K a) ds := by
  have w := walk_tup (K := W.K) (a := a) (xs := xs)
  rw [r.length] at w
  refine ⟨fun i H s hi => w.goes i H hi (Same.tupq s.s h), fun H s => w.stops H (Same.tupq s.s h), fun i d Gc H x H' s s' hd y => ?_⟩
  obtain ⟨v, e, rv⟩ := r.get hd
  obtain ⟨rfl, e'⟩ := w.yields i H x H' (List.getElem?_eq_some_iff.mp hd).1 (Same.tupq s'.s (Same.tupq s.s h)) y
  rw [e] at e'
  cases e'
  exact ⟨Gc, ext_n, s', rv.mono s⟩
theorem ItR.tup {G : GH} {a : Addr} {xs : List V} {ds : List DD} (h : G a = some (.tup xs)) (r : RpA W.K W.cm G xs ds) : ItR W G (Itt W.K a) ds := ItR.tupS (SqT.of h) r
def rangeD (lo : Int) (n : Nat) : List DD := (List.range n).map fun (i : Nat) => DD.int (lo + i)
theorem rangeD_length (lo : Int) (n : Nat) : (rangeD lo n).length = n := by unfold rangeD; rw [List.length_map, List.length_range]
theorem ItR.range {G : GH} {lo : Int} {n : Nat} : ItR W G (Itr lo n) (rangeD lo n) := by
  have w := walk_range (lo := lo) (n := n)
  refine ⟨fun i H s hi => w.goes i H (by rw [rangeD_length] at hi; exact hi) trivial, fun H s => by rw [rangeD_length]; exact w.stops H trivial, fun i d Gc H x H' s s' hd y => ?_⟩
  have hi : i < n := by have := (List.getElem?_eq_some_iff.mp hd).1; rw [rangeD_length] at this; exact this
  obtain ⟨rfl, rfl⟩ := w.yields i H x H' hi trivial y
  unfold rangeD at hd
  rw [List.getElem?_map, List.getElem?_range hi] at hd
  cases hd
  exact ⟨Gc, ext_n, s', .int _⟩
theorem ItR.str {G : GH} {z : Str} : ItR W G (Its z) (signs z) := by
  have w := walk_str (z := z)
  have hl : (signs z).length = z.cps.size := by unfold signs; rw [List.length_map, Array.length_toList]
  refine ⟨fun i H s hi => w.goes i H (by rw [hl] at hi; exact hi) trivial, fun H s => by rw [hl]; exact w.stops H trivial, fun i d Gc H x H' s s' hd y => ?_⟩
  obtain ⟨rfl, c, hc, rfl⟩ := w.yields i H x H' (by rw [← hl]; exact (List.getElem?_eq_some_iff.mp hd).1) trivial y
  unfold signs at hd
  rw [List.getElem?_map, Array.getElem?_toList, hc] at hd
  cases hd
  exact ⟨Gc, ext_n, s', .str _⟩
def dIList (a : DE) : DI := fun ρ τ => (a ρ τ).bind fun x τ1 => match x with
  | .lst ds => .ok ds τ1
  | _ => .no
def dITup (a : DE) : DI := fun ρ τ => (a ρ τ).bind fun x τ1 => match x with
  | .tup ds => .ok ds τ1
  | .tux ds => .ok ds τ1
  | _ => .no
def dIStr (a : DE) : DI := fun ρ τ => (a ρ τ).bind fun x τ1 => match x with
  | .str z => .ok (signs z) τ1
  | _ => .no
def dIR1 (a : DA) : DI := fun ρ τ => (a ρ τ).bind fun x τ1 => match x with
  | [.int j] => if -(2 ^ 62) ≤ j ∧ j < 2 ^ 62 then .ok (rangeD 0 j.toNat) τ1 else .no
  | _ => .no
def dIR2 (a : DA) : DI := fun ρ τ => (a ρ τ).bind fun x τ1 => match x with
  | [.int i, .int j] => if -(2 ^ 62) ≤ i ∧ i < 2 ^ 62 ∧ -(2 ^ 62) ≤ j ∧ j < 2 ^ 62 then .ok (rangeD i (j - i).toNat) τ1 else .no
  | _ => .no
theorem di_list (ha : Dn W Wx ta δa) : DnI W Wx (iList W.K ta) (dIList δa) := fun tp G H σ ρ τ Q E P =>
  ha _ _ _ _ _ _ _ E (P.bind fun a τ1 x G1 H1 e1 E1 r1 P1 => by
    cases r1 <;> first | exact P1.elim | skip
    rename_i h r
    exact ⟨_, rfl, ⟨_, SqL.of (E1.g _ _ h)⟩, P1 _ G1 H1 Ext.refl E1 (ItR.list h r)⟩)
theorem di_range1 (hr : DnA W Wx tr δr) : DnI W Wx (iRng1 tr) (dIR1 δr) := fun tp G H σ ρ τ Q E P =>
  hr _ _ _ _ _ _ _ E (P.bind fun a τ1 x G1 H1 e1 E1 r1 P1 => by
    split at P1
    · rename_i j
      by_cases h : -(2 ^ 62) ≤ j ∧ j < 2 ^ 62
      · rw [if_pos h] at P1
        cases r1 with | cons r rs =>
        cases rs
        exact ⟨j, by rw [r.int_of], h.1, h.2, P1 _ G1 H1 Ext.refl E1 ItR.range⟩
      · rw [if_neg h] at P1
        exact P1.elim
    · exact P1.elim)
theorem di_range2 (hr : DnA W Wx tr δr) : DnI W Wx (iRng2 tr) (dIR2 δr) := fun tp G H σ ρ τ Q E P =>
  hr _ _ _ _ _ _ _ E (P.bind fun a τ1 x G1 H1 e1 E1 r1 P1 => by
    split at P1
    · rename_i i j
      by_cases h : -(2 ^ 62) ≤ i ∧ i < 2 ^ 62 ∧ -(2 ^ 62) ≤ j ∧ j < 2 ^ 62
      · rw [if_pos h] at P1
        cases r1 with | cons r rs =>
        cases rs with | cons r' rs =>
        cases rs
        exact ⟨i, j, by rw [r.int_of, r'.int_of], h, P1 _ G1 H1 Ext.refl E1 ItR.range⟩
      · rw [if_neg h] at P1
        exact P1.elim
    · exact P1.elim)
/-- pairs -/
theorem ItR.pair {G : GH} {J : It} {n : Nat} {Gp : Hp → Prop} {f g : Nat → Option V} {ds : List DD} (w : Walk J n Gp (YPair f g)) (hG : ∀ H, SB W G H → Gp H) (hn : ds.length = n)
    (hd : ∀ i d, ds[i]? = some d → ∀ x y, f i = some x → g i = some y → ∃ a b, d = .tup [a, b] ∧ Rp W.K W.cm G x a ∧ Rp W.K W.cm G y b) : ItR W G J ds := by
  refine ⟨fun i H s hi => w.goes i H (by rw [← hn]; exact hi) (hG H s), fun H s => by rw [hn]; exact w.stops H (hG H s), fun i d Gc H x H' s s' hi y => ?_⟩
  obtain ⟨T, u, v, rfl, hT, rfl, e1, e2⟩ := w.yields i H x H' (by rw [← hn]; exact (List.getElem?_eq_some_iff.mp hi).1) (hG H (s.sb s')) y
  obtain ⟨a, b, rfl, ra, rb⟩ := hd i d hi u v e1 e2
  exact ⟨_, Ext.new hT s', s'.both hT, rp_newT (s'.free hT) (.cons (ra.mono s) (.cons (rb.mono s) .nil))⟩
def enumD (ds : List DD) : List DD := ds.mapIdx fun i d => DD.tup [.int (i : Nat), d]
def dIEnum (a : DA) : DI := fun ρ τ => (a ρ τ).bind fun x τ1 => match x with
  | [.lst ds] => .ok (enumD ds) τ1
  | _ => .no
def zipD (ds es : List DD) : List DD := List.zipWith (fun a b => DD.tup [a, b]) ds es
def dIZip (a : DA) : DI := fun ρ τ => (a ρ τ).bind fun x τ1 => match x with
  | [.lst ds, .lst es] => .ok (zipD ds es) τ1
  | _ => .no
def dIRev (a : DA) : DI := fun ρ τ => (a ρ τ).bind fun x τ1 => match x with
  | [.lst ds] => .ok ds.reverse τ1
  | _ => .no
theorem di_enum (hr : DnA W Wx tr δr) : DnI W Wx (iEnum W.K tr) (dIEnum δr) := fun tp G H σ ρ τ Q E P =>
  hr _ _ _ _ _ _ _ E (P.bind fun a τ1 x G1 H1 e1 E1 r1 P1 => by
    split at P1
    · rename_i ds
      cases r1 with | cons r rs =>
      cases rs
      cases r with | lst h r =>
      refine ⟨_, _, rfl, SqL.of (E1.g _ _ h), P1 _ G1 H1 Ext.refl E1 (ItR.pair (walk_enum (K := W.K)) (fun H s => SqL.of (s _ _ h)) (by unfold enumD; rw [List.length_mapIdx, r.length]) fun i d hd u v e1 e2 => ?_)⟩
      unfold enumD at hd
      rw [List.getElem?_mapIdx] at hd
      obtain ⟨c, hc, rfl⟩ := Option.map_eq_some_iff.mp hd
      obtain ⟨y, hy, ry⟩ := r.get hc
      cases e1
      rw [hy] at e2
      cases e2
      exact ⟨_, _, rfl, .int _, ry⟩
    · exact P1.elim)
end
end Np
set_option Elab.async false
set_option linter.all false
set_option maxRecDepth 100000
set_option maxHeartbeats 4000000
namespace Np
open PySem PySem.Spec PyProof.Rows L2
inductive Tg where
  | nm (i : Nat) | tp (ts : List Tg)
mutual
def tgG (K : PySem.W.Frag) : Tg → TG
  | .nm i => gName i
  | .tp ts => gTup K ts.length (tgGs K ts)
def tgGs (K : PySem.W.Frag) : List Tg → TGs
  | [] => gNil
  | t :: ts => gCons (tgG K t) (tgGs K ts)
end
mutual
def tgF : Tg → DD → PEnv → Option PEnv
  | .nm i, d, ρ => some (ρ.set i (some (.fr d)))
  | .tp ts, .tup ds, ρ => tgFs ts ds ρ
  | _, _, _ => none
def tgFs : List Tg → List DD → PEnv → Option PEnv
  | [], [], ρ => some ρ
  | t :: ts, d :: ds, ρ => match tgF t d ρ with
    | some ρ1 => tgFs ts ds ρ1
    | none => none
  | _, _, _ => none
end
mutual
def tgS : Tg → List Nat
  | .nm i => [i]
  | .tp ts => tgSs ts
def tgSs : List Tg → List Nat
  | [] => []
  | t :: ts => tgS t ++ tgSs ts
end
/-- what is owned then was owned -/
def Sub (σ : L2.St) (ρ : PEnv) (σ' : L2.St) (ρ' : PEnv) : Prop := ∀ (j : Nat) (c : OC) (a : Addr), ρ'[j]? = some (some (PV.ow c)) → σ'[j]? = some (some (V.ref a)) → ρ[j]? = some (some (PV.ow c)) ∧ σ[j]? = some (some (V.ref a))
theorem Sub.refl {σ : L2.St} {ρ : PEnv} : Sub σ ρ σ ρ := fun _ _ _ a b => ⟨a, b⟩
theorem Sub.trans {σ σ1 σ2 : L2.St} {ρ ρ1 ρ2 : PEnv} (a : Sub σ ρ σ1 ρ1) (b : Sub σ1 ρ1 σ2 ρ2) : Sub σ ρ σ2 ρ2 := fun j c p h1 h2 => let ⟨x, y⟩ := b j c p h1 h2; a j c p x y
theorem set_get {α : Type} {l : List (Option α)} {i j : Nat} {x : Option α} {y : α} (h : (l.set i x)[j]? = some (some y)) (hx : x ≠ some y) : j ≠ i ∧ l[j]? = some (some y) := by
  by_cases e : i = j
  · subst e
    by_cases hl : i < l.length
    · rw [List.getElem?_set_self hl] at h
      exact absurd (Option.some.inj h) hx
    · rw [List.getElem?_eq_none (by rw [List.length_set]; omega)] at h
      cases h
  · rw [List.getElem?_set_ne e] at h
    exact ⟨fun z => e z.symm, h⟩
theorem Sub.set {σ : L2.St} {ρ : PEnv} {i : Nat} {v : Option V} {p : Option PV} (hp : ∀ c, p ≠ some (.ow c)) : Sub σ ρ (σ.set i v) (ρ.set i p) := fun j c a h1 h2 => by
  obtain ⟨n, h3⟩ := set_get h1 (hp c)
  rw [List.getElem?_set_ne (fun z => n z.symm)] at h2
  exact ⟨h3, h2⟩
section
variable {W : Wp} {Wx : L2.St → XK} {tp : Option Addr} {G : GH} {H : Hp} {σ : L2.St} {ρ : PEnv} {τ : TS'}
theorem EnvV.setS {i : Nat} {v : Option V} {p : Option PV} (E : EnvV W tp G H σ ρ τ) (r : SlotR W tp G H v p) (hp : ∀ c, p ≠ some (.ow c)) : EnvV W tp G H (σ.set i v) (ρ.set i p) τ := by
  refine ⟨E.g, Paired.setL r i E.s, fun j k a b c c' F F' h1 h2 h3 h4 w w' => ?_, E.t⟩
  obtain ⟨a1, a2⟩ := Sub.set (σ := σ) (v := v) hp j c a h1 h3
  obtain ⟨b1, b2⟩ := Sub.set (σ := σ) (v := v) hp k c' b h2 h4
  exact E.d j k a b c c' F F' a1 b1 a2 b2 w w'
/-- no slot owns p -/
def FreeP (W : Wp) (G : GH) (H : Hp) (σ : L2.St) (ρ : PEnv) (p : Addr) : Prop := ∀ (j : Nat) (c : OC) (a : Addr) (F : List Addr), ρ[j]? = some (some (PV.ow c)) → σ[j]? = some (some (V.ref a)) → OwR W G H a c F → p ∉ F
theorem EnvV.noO {p : Addr} (E : EnvV W tp G H σ ρ τ) (n : H p = none) : FreeP W G H σ ρ p := fun j c a F h1 h2 w hp => w.at p hp n
theorem FreeP.ext {p : Addr} {G' : GH} {H' : Hp} (f : FreeP W G H σ ρ p) (E : EnvV W tp G H σ ρ τ) (e : Ext tp G H G' H') : FreeP W G' H' σ ρ p := fun j c a F h1 h2 w => f j c a F h1 h2 (E.backE e h1 h2 w)
theorem EnvV.setF {i : Nat} {v : V} {d : DD} (E : EnvV W tp G H σ ρ τ) (r : Rp W.K W.cm G v d) : EnvV W tp G H (σ.set i (some v)) (ρ.set i (some (.fr d))) τ := E.setS r fun _ z => by cases z
theorem EnvV.setN {i : Nat} (E : EnvV W tp G H σ ρ τ) : EnvV W tp G H (σ.set i none) (ρ.set i none) τ := E.setS (v := none) (p := none) trivial fun _ z => by cases z
def wipeP (ρ : PEnv) : List Nat → PEnv
  | [] => ρ
  | v :: vs => (wipeP ρ vs).set v none
theorem EnvV.wipe (E : EnvV W tp G H σ ρ τ) : ∀ vs, EnvV W tp G H (L2.wipe σ vs) (wipeP ρ vs) τ
  | [] => E
  | v :: vs => (E.wipe vs).setN
theorem wipe_set {i : Nat} {x : Option V} : ∀ {vs : List Nat} {σ : L2.St}, i ∈ vs → L2.wipe (σ.set i x) vs = L2.wipe σ vs
  | v :: vs, σ, h => by
    unfold L2.wipe
    by_cases hv : i ∈ vs
    · rw [wipe_set hv]
    · have e : i = v := by
        rcases List.mem_cons.mp h with z | z
        · exact z
        · exact absurd z hv
      subst e
      have : ∀ (vs : List Nat), i ∉ vs → L2.wipe (σ.set i x) vs = (L2.wipe σ vs).set i x := by
        intro vs
        induction vs with
        | nil => intro _; rfl
        | cons w ws ih =>
          intro hn
          unfold L2.wipe
          rw [ih fun z => hn (List.mem_cons_of_mem _ z), List.set_comm]
          exact fun z => hn (by rw [z]; exact List.mem_cons_self)
      rw [this vs hv, List.set_set]
mutual
theorem tg_run : ∀ (t : Tg) {σ : L2.St} {ρ ρ' : PEnv} {x : V} {d : DD} {Kc : L2.St → Hp → Prop}, EnvV W tp G H σ ρ τ → Rp W.K W.cm G x d → tgF t d ρ = some ρ' →
    (∀ σ', EnvV W tp G H σ' ρ' τ → Sub σ ρ σ' ρ' → (∀ js, (∀ i ∈ tgS t, i ∈ js) → L2.wipe σ' js = L2.wipe σ js) → Kc σ' H) → tgG W.K t x σ H Kc
  | .nm i, σ, ρ, ρ', x, d, Kc, E, r, h, k => by
    rw [tgF] at h
    cases h
    rw [tgG]
    exact k _ (E.setF r) (Sub.set fun _ z => by cases z) fun js hj => wipe_set (hj i (by rw [tgS]; exact List.mem_cons_self))
  | .tp ts, σ, ρ, ρ', x, d, Kc, E, r, h, k => by
    rw [tgG]
    cases d <;> first | (rw [tgF] at h <;> first | (cases h; done) | (intros; contradiction)) | skip
    rw [tgF] at h
    cases r with | tup e rs =>
    rename_i ds a xs
    have hl : xs.length = ts.length := by
      rw [rs.length]
      clear rs e k
      have : ∀ (ts : List Tg) (ds : List DD) (ρ ρ' : PEnv), tgFs ts ds ρ = some ρ' → ds.length = ts.length := by
        intro ts
        induction ts with
        | nil => intro ds ρ ρ' h; cases ds with
          | nil => rfl
          | cons d ds => rw [tgFs] at h <;> first | (cases h; done) | (intros; contradiction)
        | cons t ts ih =>
          intro ds ρ ρ' h
          cases ds with
          | nil => rw [tgFs] at h <;> first | (cases h; done) | (intros; contradiction)
          | cons d ds =>
            rw [tgFs] at h
            split at h
            · exact congrArg Nat.succ (ih _ _ _ h)
            · cases h
      exact this _ _ _ _ h
    exact ⟨_, xs, rfl, SqT.of (E.g _ _ e), hl, tgs_run ts E rs h fun σ' E' s w => k σ' E' s fun js hj => w js (by rw [tgS] at hj; exact hj)⟩
theorem tgs_run : ∀ (ts : List Tg) {σ : L2.St} {ρ ρ' : PEnv} {xs : List V} {ds : List DD} {Kc : L2.St → Hp → Prop}, EnvV W tp G H σ ρ τ → RpA W.K W.cm G xs ds → tgFs ts ds ρ = some ρ' →
    (∀ σ', EnvV W tp G H σ' ρ' τ → Sub σ ρ σ' ρ' → (∀ js, (∀ i ∈ tgSs ts, i ∈ js) → L2.wipe σ' js = L2.wipe σ js) → Kc σ' H) → tgGs W.K ts xs σ H Kc
  | [], σ, ρ, ρ', xs, ds, Kc, E, r, h, k => by
    rw [tgGs]
    cases ds with
    | nil =>
      rw [tgFs] at h
      cases h
      cases r
      exact ⟨rfl, k _ E Sub.refl fun _ _ => rfl⟩
    | cons d ds => rw [tgFs] at h <;> first | (cases h; done) | (intros; contradiction)
  | t :: ts, σ, ρ, ρ', xs, ds, Kc, E, r, h, k => by
    rw [tgGs]
    cases ds with
    | nil => rw [tgFs] at h <;> first | (cases h; done) | (intros; contradiction)
    | cons d ds =>
      rw [tgFs] at h
      split at h
      · rename_i ρ1 h1
        cases r with | cons r rs =>
        refine ⟨_, _, rfl, tg_run t E r h1 fun σ1 E1 s1 w1 => tgs_run ts E1 rs h fun σ2 E2 s2 w2 => k σ2 E2 (s1.trans s2) fun js hj => ?_⟩
        rw [w2 js fun i hi => hj i (by rw [tgSs]; exact List.mem_append_right _ hi), w1 js fun i hi => hj i (by rw [tgSs]; exact List.mem_append_left _ hi)]
      · cases h
end
def R.nox {α : Type} : R α → R α
  | .ok a τ => .ok a τ
  | _ => .no
@[simp] theorem R.nox_ok {α : Type} (a : α) (τ : TS') : (R.ok a τ).nox = .ok a τ := id rfl
abbrev W0 : L2.St → XK := fun _ => E0
def lcL (t : Tg) (c : DT) (e : DE) (ρ : PEnv) : List DD → TS' → R (List DD)
  | [], τ => .ok [] τ
  | d :: ds, τ => match tgF t d ρ with
    | none => .no
    | some ρ1 => (c ρ1 τ).nox.bind fun b τ1 => if b = true then (e ρ1 τ1).nox.bind fun y τ2 => (lcL t c e ρ ds τ2).bind fun ys τ3 => .ok (y :: ys) τ3 else lcL t c e ρ ds τ1
def dLc (i : DI) (t : Tg) (c : DT) (e : DE) (vs : List Nat) : DE := fun ρ τ => (i ρ τ).bind fun ds τ1 => if ds.length ≤ sizeLine then (lcL t c e (wipeP ρ vs) ds τ1).bind fun ys τ2 => .ok (.lst ys) τ2 else .no
def dYes : DT := fun _ τ => .ok true τ
theorem dt_yes : DnT W Wx tYes dYes := fun tp G H σ ρ τ Q E P => P true G H Ext.refl E rfl
theorem R.nox_eq {α β : Type} {r : R α} {f : α → TS' → R β} {b : β} {τ' : TS'} (h : r.nox.bind f = .ok b τ') : ∃ a τ1, r = .ok a τ1 ∧ f a τ1 = .ok b τ' := by
  cases r with
  | ok a τ1 => exact ⟨a, τ1, rfl, h⟩
  | ex x τ1 => cases h
  | no => cases h
theorem R.bind_eq {α β : Type} {r : R α} {f : α → TS' → R β} {b : β} {τ' : TS'} (h : r.bind f = .ok b τ') : ∃ a τ1, r = .ok a τ1 ∧ f a τ1 = .ok b τ' := by
  cases r with
  | ok a τ1 => exact ⟨a, τ1, rfl, h⟩
  | ex x τ1 => cases h
  | no => cases h
theorem lcL_inv {t : Tg} {c : DT} {e : DE} {ρ : PEnv} {d : DD} {ds ys : List DD} {τ τ' : TS'} (h : lcL t c e ρ (d :: ds) τ = .ok ys τ') : ∃ ρ1 b τ1, tgF t d ρ = some ρ1 ∧ c ρ1 τ = .ok b τ1 ∧
    ((b = true ∧ ∃ y τ2 zs, e ρ1 τ1 = .ok y τ2 ∧ lcL t c e ρ ds τ2 = .ok zs τ' ∧ ys = y :: zs) ∨ (b = false ∧ lcL t c e ρ ds τ1 = .ok ys τ')) := by
  rw [lcL] at h
  split at h
  · cases h
  · rename_i ρ1 h1
    obtain ⟨b, τ1, h2, h3⟩ := R.nox_eq h
    refine ⟨ρ1, b, τ1, h1, h2, ?_⟩
    cases b with
    | false => exact .inr ⟨rfl, h3⟩
    | true =>
      obtain ⟨y, τ2, h4, h5⟩ := R.nox_eq h3
      obtain ⟨zs, τ3, h6, h7⟩ := R.bind_eq h5
      cases h7
      exact .inl ⟨rfl, y, τ2, zs, h4, h6, rfl⟩
theorem Ext.mut {G' : GH} {H' : Hp} {p : Addr} {o : HO} (e : Ext tp G H G' H') (n : H p = none) : Ext tp G H G' (upd H' p o) :=
  ⟨e.g, fun q u nq t h => by rw [upd_ne (ne_of_none h n)]; exact e.h q u nq t h, e.f, fun q hq => by
    by_cases z : q = p
    · rw [z, upd_same]; simp
    · rw [upd_ne z]; exact e.x q hq, e.w, e.z⟩
/-- a thing that no slot has is changed -/
theorem EnvV.mutH {p : Addr} {o : HO} (E : EnvV W tp G H σ ρ τ) (g : G p = none) (nt : NoM tp G p) (pl : NT H p) (no : FreeP W G H σ ρ p) : EnvV W tp G (upd H p o) σ ρ τ := by
  have kp : ∀ {j : Nat} {c : OC} {a : Addr} {F : List Addr}, ρ[j]? = some (some (PV.ow c)) → σ[j]? = some (some (V.ref a)) → OwR W G H a c F → OwR W G (upd H p o) a c F := fun h1 h2 w => w.keep (GS.refl _) fun q hq u hu => by
    rw [upd_ne (fun z => no _ _ _ _ h1 h2 w (by rw [← z]; exact hq))]; exact hu
  refine ⟨E.g.put g pl, Paired.mapI E.s fun j v q hv hq h => ?_, fun i j a b c c' F F' h1 h2 h3 h4 w w' => ?_, E.t.put nt⟩
  · match v, q, h with
    | _, none, _ => trivial
    | some v, some (.fr d), h => exact h
    | some v, some (.ow c), ⟨a, F, r, w, gn⟩ =>
      subst r
      exact ⟨a, F, rfl, kp hq hv w, gn⟩
    | some v, some .tape, h => exact h
    | some v, some (.scr ns), h => exact h
    | some v, some (.fn x), h => exact h
    | some v, some .thk, ⟨f, c, q, g, a, b, s, n, h⟩ => exact ⟨f, c, q, g, a, b, s, n, by rw [upd_ne (code_ne h pl)]; exact h⟩
  · obtain ⟨F1, w1, _⟩ := E.own h1 h3
    obtain ⟨F2, w2, _⟩ := E.own h2 h4
    rw [w.uniq (kp h1 h3 w1), w'.uniq (kp h2 h4 w2)]
    exact E.d i j a b c c' F1 F2 h1 h2 h3 h4 w1 w2
theorem wipe_wipe {σ : L2.St} : ∀ {vs : List Nat}, L2.wipe (L2.wipe σ vs) vs = L2.wipe σ vs := by
  have : ∀ (us vs : List Nat), (∀ i ∈ us, i ∈ vs) → L2.wipe (L2.wipe σ us) vs = L2.wipe σ vs := by
    intro us
    induction us with
    | nil => intro vs _; rfl
    | cons u us ih =>
      intro vs h
      show L2.wipe ((L2.wipe σ us).set u none) vs = _
      rw [wipe_set (h u List.mem_cons_self), ih vs fun i hi => h i (List.mem_cons_of_mem _ hi)]
  exact fun {vs} => this vs vs fun _ h => h
theorem lc_run {J : It} {tt : TT} {te : TE} {vs : List Nat} {δc : DT} {δe : DE} {t : Tg} {ds ys : List DD} {τ1 τ' : TS'} {G1 : GH} {H1 : Hp} {D : Addr} {Qd : Hp → Prop} (hv : (tgS t).all (fun i => decide (i ∈ vs)) = true) (hc : DnT W W0 tt δc) (he : Dn W W0 te δe)
    (E1 : EnvV W tp G1 H1 σ ρ τ1) (it : ItR W G1 J ds) (hl : ds.length ≤ sizeLine) (hok : lcL t δc δe (wipeP ρ vs) ds τ1 = .ok ys τ') (nD : H1 D = none)
    (k : ∀ acc G' H', Ext tp G1 H1 G' H' → EnvV W tp G' H' σ ρ τ' → G' D = none → NoM tp G' D → H' D = some (.lst acc) → RpA W.K W.cm G' acc ys → Qd H') :
    ∃ W' : Nat → Nat → Hp → Prop, (∃ m, W' 0 m (upd H1 D (.lst []))) ∧ ∀ i m H, W' i m H →
      (J.stop i H ∧ Qd H) ∨ (J.go i H ∧ ∃ Nx : Hp → Prop, (∀ H', Nx H' → ∃ m', m' < m ∧ W' (i + 1) m' H') ∧ ∀ x H', J.yld i H x H' → tgG W.K t x (L2.wipe σ vs) H' fun σ2 H2 => L2.wipe σ2 vs = L2.wipe σ vs ∧ tt σ2 H2 fun b H3 =>
        if b = true then te σ2 H3 fun y H4 => ∃ acc, H4 D = some (.lst acc) ∧ acc.length < sizeLine ∧ Nx (upd H4 D (.lst (acc ++ [y]))) else Nx H3) := by
  have ndt := E1.noM nD
  have noD := E1.noO nD
  have w : Walk J ds.length (fun H => SB W G1 H) (fun i H x H' => ∀ d Gc, ds[i]? = some d → GS G1 Gc → SB W Gc H → ∃ G', Ext none Gc H G' H' ∧ SB W G' H' ∧ Rp W.K W.cm G' x d) :=
    ⟨fun i H hi s => it.go i H s hi, fun H s => it.stop H s, fun i H x H' hi s y d Gc hd s1 s2 => it.yld i d Gc H x H' s1 s2 hd y⟩
  refine lc_it w (fun i Hc => ∃ Gc τc acc done rest, Ext tp G1 H1 Gc Hc ∧ EnvV W tp Gc Hc σ ρ τc ∧ Gc D = none ∧ NoM tp Gc D ∧ Hc D = some (.lst acc) ∧ RpA W.K W.cm Gc acc done ∧ done.length ≤ i ∧
        lcL t δc δe (wipeP ρ vs) (ds.drop i) τc = .ok rest τ' ∧ ys = done ++ rest) ?_ (fun i Hc _ h => ?_) ?_ ?_
  · exact ⟨G1, τ1, [], [], ys, Ext.newH nD, E1.newH nD, E1.g.free nD, ndt, upd_same, .nil, Nat.le_refl _, hok, rfl⟩
  · obtain ⟨Gc, τc, acc, done, rest, ec, Ec, _⟩ := h
    exact ec.g.sb Ec.g
  · rintro i x Hc Hc' hi ⟨Gc, τc, acc, done, rest, ec, Ec, gD, nc, hD, ra, hdn, hr, hys⟩ y
    obtain ⟨d, hd⟩ : ∃ d, ds[i]? = some d := ⟨ds[i], List.getElem?_eq_getElem hi⟩
    have hdr : ds.drop i = d :: ds.drop (i + 1) := by
      obtain ⟨h1, h2⟩ := List.getElem?_eq_some_iff.mp hd
      rw [List.drop_eq_getElem_cons h1, h2]
    obtain ⟨Gd, ed, sd, rd⟩ := y d Gc hd ec.g Ec.g
    have Ed := Ec.grow ed sd
    rw [hdr] at hr
    obtain ⟨ρ1, b, τ2, hf, hcb, hcase⟩ := lcL_inv hr
    refine tg_run t (Ed.wipe vs) rd hf fun σ2 E2 s2 w2 => ⟨by rw [w2 vs fun i hi => of_decide_eq_true (List.all_eq_true.mp hv i hi)]; exact wipe_wipe, hc _ _ _ _ _ _ _ E2 ?_⟩
    rw [hcb]
    intro b' G3 H3 e3 E3 rb
    cases rb
    have E3' : EnvV W tp G3 H3 σ ρ τ2 := Ed.ext e3 E3.g E3.t
    have e03 : Ext tp G1 H1 G3 H3 := (ec.trans ed.weak).trans e3
    have nd : NoM tp Gd D := ed.weak.nom nc (by rw [hD]; simp)
    have hDd : Hc' D = some (.lst acc) := ed.h D _ NoM.none rfl hD
    have n3 : NoM tp G3 D := e3.nom nd (by rw [hDd]; simp)
    have hD3 : H3 D = some (.lst acc) := e3.h D _ nd rfl hDd
    have gD3 : G3 D = none := e3.f D nd (by rw [hDd]; simp) (ed.f D NoM.none (by rw [hD]; simp) gD)
    have ra3 := ra.mono (ed.g.trans e3.g)
    rcases hcase with ⟨rfl, y, τ4, zs, hy, hz, rfl⟩ | ⟨rfl, hz⟩
    · refine iteT (he _ _ _ _ _ _ _ E3 ?_)
      rw [hy]
      intro v G4 H4 e4 E4 ry
      have E4' : EnvV W tp G4 H4 σ ρ τ4 := E3'.ext e4 E4.g E4.t
      have gD4 : G4 D = none := e4.f D n3 (by rw [hD3]; simp) gD3
      have hD4 : H4 D = some (.lst acc) := e4.h D _ n3 rfl hD3
      have n4 : NoM tp G4 D := e4.nom n3 (by rw [hD3]; simp)
      refine ⟨acc, hD4, by rw [ra.length]; omega, G4, τ4, acc ++ [v], done ++ [y], zs, (e03.trans e4).mut nD, E4'.mutH gD4 n4 ⟨_, hD4, rfl⟩ (noD.ext E1 (e03.trans e4)), gD4, n4, upd_same, (ra3.mono e4.g).append (.cons ry .nil), by rw [List.length_append]; show _ + 1 ≤ _; omega, hz, by rw [hys, List.append_assoc]; rfl⟩
    · exact iteF ⟨G3, τ2, acc, done, rest, e03, E3', gD3, n3, hD3, ra3, by omega, hz, hys⟩
  · rintro Hc ⟨Gc, τc, acc, done, rest, ec, Ec, gD, nc, hD, ra, hdn, hr, hys⟩
    rw [List.drop_length] at hr
    cases hr
    rw [List.append_nil] at hys
    subst hys
    exact k acc Gc Hc ec Ec gD nc hD ra
theorem lcL_noex {t : Tg} {c : DT} {e : DE} {ρ : PEnv} {x : Ex} {τ' : TS'} : ∀ {ds : List DD} {τ : TS'}, lcL t c e ρ ds τ = .ex x τ' → False
  | [], _, h => by cases h
  | d :: ds, τ, h => by
    rw [lcL] at h
    split at h
    · cases h
    · rename_i ρ1 _
      cases hc : c ρ1 τ with
      | no => rw [hc] at h; cases h
      | ex y τy => rw [hc] at h; cases h
      | ok b τ1 =>
        rw [hc] at h
        cases b with
        | false => exact lcL_noex (ds := ds) h
        | true =>
          simp only [R.nox_ok, R.bind_ok, if_true] at h
          cases he : e ρ1 τ1 with
          | no => rw [he] at h; simp [R.nox] at h
          | ex y τy => rw [he] at h; simp [R.nox] at h
          | ok y τ2 =>
            rw [he] at h
            cases hl : lcL t c e ρ ds τ2 with
            | no => simp [hl] at h
            | ex z τz => exact lcL_noex hl
            | ok zs τ3 => simp [hl] at h
/-- a thing that no slot has stays from now on -/
theorem EnvV.freeze {p : Addr} {o : HO} (E : EnvV W tp G H σ ρ τ) (g : G p = none) (h : H p = some o) (ht : o.tb = false) (nt : NoM tp G p) (no : FreeP W G H σ ρ p) : EnvV W tp (G.upd p o) H σ ρ τ := by
  have s1 : GS G (G.upd p o) := GS.new g
  refine ⟨E.g.frz h ht, Paired.mapI E.s fun j v q hv hq' h => ?_, fun i j a b c c' F F' h1 h2 h3 h4 w w' => E.d i j a b c c' F F' h1 h2 h3 h4 (E.back s1 (fun _ _ _ h => h) h1 h3 w) (E.back s1 (fun _ _ _ h => h) h2 h4 w'), E.t.frz1 g nt⟩
  match v, q, h with
  | _, none, _ => trivial
  | some v, some (.fr d), h => exact Rp.mono s1 h
  | some v, some (.ow c), ⟨a, F, r, w, gn⟩ =>
    subst r
    exact ⟨a, F, rfl, w.keep s1 fun _ _ o h => h, fun q hq => ⟨by show upd G.hp p o q = none; rw [upd_ne (fun z => no j c a F hq' hv w (by rw [← z]; exact hq))]; exact (gn q hq).1, (gn q hq).2⟩⟩
  | some v, some .tape, h => exact h
  | some v, some (.scr ns), ⟨a, r, q⟩ => exact ⟨a, r, s1.seq q⟩
  | some v, some (.fn x), h => exact h
  | some v, some .thk, ⟨f, c, q, g, a, b, s, n, h⟩ => exact ⟨f, c, q, g, a, b, s.trans s1, n, h⟩
theorem Ext.frzN {G' : GH} {H' : Hp} {p : Addr} {o : HO} (e : Ext tp G H G' H') (n : H p = none) (g : G' p = none) : Ext tp G H (G'.upd p o) H' :=
  ⟨e.g.trans (GS.new g), e.h, fun q np hp hg => by
    show upd G'.hp p o q = none
    rw [upd_ne (fun z => hp (by rw [z]; exact n))]
    exact e.f q np hp hg, e.x, e.w, e.z⟩
theorem dn_lc {wi : TI} {tt : TT} {te : TE} {vs : List Nat} {δi : DI} {δc : DT} {δe : DE} {t : Tg} (hv : (tgS t).all (fun i => decide (i ∈ vs)) = true) (hi : DnI W Wx wi δi) (hc : DnT W W0 tt δc) (he : Dn W W0 te δe) :
    Dn W Wx (tLc wi (tgG W.K t) tt te vs) (dLc δi t δc δe vs) := fun tp G H σ ρ τ Q E P =>
  hi _ _ _ _ _ _ _ E (P.bind fun ds τ1 J G1 H1 e1 E1 it P1 D nD => by
    by_cases hl : ds.length ≤ sizeLine
    · rw [if_pos hl] at P1
      cases hok : lcL t δc δe (wipeP ρ vs) ds τ1 with
      | no => rw [hok] at P1; exact P1.elim
      | ex x τx => exact (lcL_noex hok).elim
      | ok ys τ' =>
        rw [hok] at P1
        refine lc_run hv hc he E1 it hl hok nD fun acc G' H' e E' gD nD' hD ra => ?_
        refine P1 (.ref D) (G'.upd D (.lst acc)) H' (e.frzN nD gD) (E'.freeze gD hD rfl nD' ((E1.noO nD).ext E1 e)) (rp_newL gD ra)
    · rw [if_neg hl] at P1
      exact P1.elim)
end
end Np
set_option Elab.async false
set_option linter.all false
set_option maxRecDepth 100000
set_option maxHeartbeats 4000000
namespace Np
open PySem PySem.Spec PyProof.Rows L2
inductive Ct where
  | nx (ρ : PEnv) | rt (d : DD) | bk (ρ : PEnv) | ct (ρ : PEnv) | xc (x : Ex) (ρ : PEnv) | ro (c : OC)
abbrev DS := PEnv → TS' → R Ct
structure EnvS (W : Wp) (tp0 : Option Addr) (G0 : GH) (H0 : Hp) (tp : Option Addr) (G : GH) (H : Hp) (σ : L2.St) (ρ : PEnv) (τ : TS') : Prop where
  v : EnvV W tp G H σ ρ τ
  e : Ext tp0 G0 H0 G H
  o : ∀ (j : Nat) (c : OC) (a : Addr) (F : List Addr), ρ[j]? = some (some (PV.ow c)) → σ[j]? = some (some (V.ref a)) → OwR W G H a c F → ∀ p ∈ F, H0 p = none
  t : tp = tp0 ∨ (tp0 = none ∧ False)
section
variable (W : Wp) (Wx : L2.St → XK)
def Ps (tp0 : Option Addr) (G0 : GH) (H0 : Hp) (G : GH) (D : Ends) : R Ct → Prop
  | .ok (.nx ρ) τ => ∀ tp' G' H' σ', GS G G' → EnvS W tp0 G0 H0 tp' G' H' σ' ρ τ → D.nx σ' H'
  | .ok (.bk ρ) τ => ∀ tp' G' H' σ', GS G G' → EnvS W tp0 G0 H0 tp' G' H' σ' ρ τ → D.bk σ' H'
  | .ok (.ct ρ) τ => ∀ tp' G' H' σ', GS G G' → EnvS W tp0 G0 H0 tp' G' H' σ' ρ τ → D.ct σ' H'
  | .ok (.rt d) τ => ∀ v tp' G' H', Ext tp0 G0 H0 G' H' → SB W G' H' → TapeO W G' H' tp' τ → (tp' = tp0 ∨ tp0 = none) → Rp W.K W.cm G' v d → D.rt v H'
  | .ok (.ro c) τ => ∀ p F tp' G' H', Ext tp0 G0 H0 G' H' → SB W G' H' → TapeO W G' H' tp' τ → (tp' = tp0 ∨ tp0 = none) → OwR W G' H' p c F → (∀ q ∈ F, H0 q = none ∧ G' q = none ∧ NoM tp' G' q) → D.rt (.ref p) H'
  | .ok (.xc x ρ) τ => ∀ d tp' G' H' σ', GS G G' → EnvS W tp0 G0 H0 tp' G' H' σ' ρ τ → ExR W G' H' x d → Wx σ' (.ref (W.cm x.cls)) d H'
  | _ => False
def DnS (t : L2.TS) (δ : DS) : Prop := ∀ tp0 G0 H0 tp G H σ ρ τ D, EnvS W tp0 G0 H0 tp G H σ ρ τ → Ps W Wx tp0 G0 H0 G D (δ ρ τ) → t D σ H
end
def stE {α : Type} (r : R α) (ρ : PEnv) (f : α → TS' → R Ct) : R Ct := match r with
  | .ok a τ => f a τ
  | .ex x τ => .ok (.xc x ρ) τ
  | .no => .no
@[simp] theorem stE_ok {α : Type} (a : α) (τ : TS') (ρ : PEnv) (f : α → TS' → R Ct) : stE (.ok a τ) ρ f = f a τ := id rfl
@[simp] theorem stE_ex {α : Type} (a : Ex) (τ : TS') (ρ : PEnv) (f : α → TS' → R Ct) : stE (.ex a τ) ρ f = .ok (.xc a ρ) τ := id rfl
@[simp] theorem stE_no {α : Type} (ρ : PEnv) (f : α → TS' → R Ct) : stE (.no) ρ f = .no := id rfl
section
variable {W : Wp} {Wx : L2.St → XK} {tp0 tp tp' : Option Addr} {G0 G G' : GH} {H0 H H' : Hp} {σ : L2.St} {ρ : PEnv} {τ τ' : TS'} {D : Ends}
theorem Ext.comp (e : Ext tp0 G0 H0 G H) (t : tp = tp0 ∨ (tp0 = none ∧ False)) (e' : Ext tp G H G' H') : Ext tp0 G0 H0 G' H' := by
  rcases t with rfl | ⟨_, h⟩
  · exact e.trans e'
  · exact h.elim
theorem EnvS.step (E : EnvS W tp0 G0 H0 tp G H σ ρ τ) (e : Ext tp G H G' H') (E' : EnvV W tp G' H' σ ρ τ') : EnvS W tp0 G0 H0 tp G' H' σ ρ τ' :=
  ⟨E', E.e.comp E.t e, fun j c a F h1 h2 w => E.o j c a F h1 h2 (E.v.backE e h1 h2 w), E.t⟩
theorem EnvS.sub {σ' : L2.St} {ρ' : PEnv} (E : EnvS W tp0 G0 H0 tp G H σ ρ τ) (E' : EnvV W tp G H σ' ρ' τ) (s : Sub σ ρ σ' ρ') : EnvS W tp0 G0 H0 tp G H σ' ρ' τ :=
  ⟨E', E.e, fun j c a F h1 h2 w => let ⟨x, y⟩ := s j c a h1 h2; E.o j c a F x y w, E.t⟩
theorem Ps.shift {r : R Ct} (P : Ps W Wx tp0 G0 H0 G D r) (s : GS G G') : Ps W Wx tp0 G0 H0 G' D r := by
  match r, P with
  | .ok (.nx ρ) τ, P => exact fun tp' G2 H' σ' s' => P tp' G2 H' σ' (s.trans s')
  | .ok (.bk ρ) τ, P => exact fun tp' G2 H' σ' s' => P tp' G2 H' σ' (s.trans s')
  | .ok (.ct ρ) τ, P => exact fun tp' G2 H' σ' s' => P tp' G2 H' σ' (s.trans s')
  | .ok (.rt d) τ, P => exact P
  | .ok (.ro d) τ, P => exact P
  | .ok (.xc x ρ) τ, P => exact fun d tp' G2 H' σ' s' => P d tp' G2 H' σ' (s.trans s')
  | .ex x τ, P => exact P.elim
  | .no, P => exact P.elim
theorem Ps.bind {α β : Type} {rel : Option Addr → GH → β → α → Prop} {Q' : β → Hp → Prop} {r : R α} {f : α → TS' → R Ct} (P : Ps W Wx tp0 G0 H0 G D (stE r ρ f)) (E : EnvS W tp0 G0 H0 tp G H σ ρ τ)
    (k : ∀ a τ1 b G1 H1, EnvS W tp0 G0 H0 tp G1 H1 σ ρ τ1 → Ext tp G H G1 H1 → rel tp G1 b a → Ps W Wx tp0 G0 H0 G1 D (f a τ1) → Q' b H1) : Pg W Wx rel tp σ ρ G H Q' r := by
  cases r with
  | ok a τ1 => exact fun b G1 H1 e1 E1 r1 => k a τ1 b G1 H1 (E.step e1 E1) e1 r1 (Ps.shift (r := f a τ1) P e1.g)
  | ex x τ1 => exact fun d G1 H1 e1 E1 hx => P d tp G1 H1 σ e1.g (E.step e1 E1) hx
  | no => exact P.elim
variable {te : TE} {δe : DE} {t u : L2.TS} {δt δu : DS} {tc : TT} {δc : DT}
def dNx : DS := fun ρ τ => .ok (.nx ρ) τ
def dSeq (a b : DS) : DS := fun ρ τ => match a ρ τ with
  | .ok (.nx ρ1) τ1 => b ρ1 τ1
  | r => r
def dSet (i : Nat) (e : DE) : DS := fun ρ τ => stE (e ρ τ) ρ fun d τ1 => .ok (.nx (ρ.set i (some (.fr d)))) τ1
def dDrop (e : DE) : DS := fun ρ τ => stE (e ρ τ) ρ fun d τ1 => .ok (.nx ρ) τ1
def dRet (e : DE) : DS := fun ρ τ => stE (e ρ τ) ρ fun d τ1 => .ok (.rt d) τ1
def dRetN : DS := fun ρ τ => .ok (.rt .non) τ
def dIfS (c : DT) (a b : DS) : DS := fun ρ τ => stE (c ρ τ) ρ fun x τ1 => if x = true then a ρ τ1 else b ρ τ1
def dAsgT (e : DE) (g : Tg) : DS := fun ρ τ => stE (e ρ τ) ρ fun d τ1 => match tgF g d ρ with
  | some ρ1 => .ok (.nx ρ1) τ1
  | none => .no
def dAug (i : Nat) (g : DD → DD → Option DD) (e : DE) : DS := fun ρ τ => match ρ[i]? with
  | some (some (.fr x)) => stE (e ρ τ) ρ fun y τ1 => match g x y with
    | some z => .ok (.nx (ρ.set i (some (.fr z)))) τ1
    | none => .no
  | _ => .no
theorem ds_next : DnS W Wx tNext dNx := fun tp0 G0 H0 tp G H σ ρ τ D E P => P tp G H σ (GS.refl _) E
theorem ds_seq (ht : DnS W Wx t δt) (hu : DnS W Wx u δu) : DnS W Wx (tSeq t u) (dSeq δt δu) := fun tp0 G0 H0 tp G H σ ρ τ D E P => by
  refine ht _ _ _ _ _ _ _ _ _ _ E ?_
  unfold dSeq at P
  split at P
  · rename_i ρ1 τ1 h
    rw [h]
    exact fun tp' G' H' σ' s E' => hu _ _ _ _ _ _ _ _ _ _ E' (Ps.shift P s)
  · rename_i h
    revert P h
    match δt ρ τ with
    | .ok (.nx ρ) τ => intro h P; exact (h ρ τ rfl).elim
    | .ok (.bk ρ) τ => intro _ P; exact P
    | .ok (.ct ρ) τ => intro _ P; exact P
    | .ok (.rt d) τ => intro _ P; exact P
    | .ok (.ro d) τ => intro _ P; exact P
    | .ok (.xc x ρ) τ => intro _ P; exact P
    | .ex x τ => intro _ P; exact P.elim
    | .no => intro _ P; exact P.elim
theorem EnvS.setF {i : Nat} {v : V} {d : DD} (E : EnvS W tp0 G0 H0 tp G H σ ρ τ) (r : Rp W.K W.cm G v d) : EnvS W tp0 G0 H0 tp G H (σ.set i (some v)) (ρ.set i (some (.fr d))) τ :=
  E.sub (E.v.setF r) (Sub.set fun _ z => by cases z)
theorem ds_set {i : Nat} (he : Dn W Wx te δe) : DnS W Wx (tAsg te (gName i)) (dSet i δe) := fun tp0 G0 H0 tp G H σ ρ τ D E P =>
  he _ _ _ _ _ _ _ E.v (P.bind E fun d τ1 v G1 H1 E1 e1 r1 P1 => P1 tp G1 H1 _ (GS.refl _) (E1.setF r1))
theorem ds_drop (he : Dn W Wx te δe) : DnS W Wx (tDrop te) (dDrop δe) := fun tp0 G0 H0 tp G H σ ρ τ D E P =>
  he _ _ _ _ _ _ _ E.v (P.bind E fun d τ1 v G1 H1 E1 e1 r1 P1 => P1 tp G1 H1 _ (GS.refl _) E1)
theorem ds_ret (he : Dn W Wx te δe) : DnS W Wx (tRet te) (dRet δe) := fun tp0 G0 H0 tp G H σ ρ τ D E P =>
  he _ _ _ _ _ _ _ E.v (P.bind E fun d τ1 v G1 H1 E1 e1 r1 P1 => P1 v tp G1 H1 E1.e E1.v.g E1.v.t (E1.t.imp id fun z => z.1) r1)
theorem ds_retN : DnS W Wx tRetN dRetN := fun tp0 G0 H0 tp G H σ ρ τ D E P => P .non tp G H E.e E.v.g E.v.t (E.t.imp id fun z => z.1) .non
theorem ds_if (hc : DnT W Wx tc δc) (ht : DnS W Wx t δt) (hu : DnS W Wx u δu) : DnS W Wx (tIfS tc t u) (dIfS δc δt δu) := fun tp0 G0 H0 tp G H σ ρ τ D E P =>
  hc _ _ _ _ _ _ _ E.v (P.bind E fun b τ1 v G1 H1 E1 e1 r1 P1 => by
    cases r1
    cases b with
    | true => exact iteT (ht _ _ _ _ _ _ _ _ _ _ E1 P1)
    | false => exact iteF (hu _ _ _ _ _ _ _ _ _ _ E1 P1))
theorem ds_asgT {g : Tg} (he : Dn W Wx te δe) : DnS W Wx (tAsg te (tgG W.K g)) (dAsgT δe g) := fun tp0 G0 H0 tp G H σ ρ τ D E P =>
  he _ _ _ _ _ _ _ E.v (P.bind E fun d τ1 v G1 H1 E1 e1 r1 P1 => by
    cases hg : tgF g d ρ with
    | none => rw [hg] at P1; exact P1.elim
    | some ρ1 =>
      rw [hg] at P1
      exact tg_run g E1.v r1 hg fun σ' E' s _ => P1 tp G1 H1 _ (GS.refl _) (E1.sub E' s))
theorem ds_aug {i : Nat} {r : R2} {g : DD → DD → Option DD} (ho : OpD W r g) (he : Dn W Wx te δe) : DnS W Wx (tAug i te r) (dAug i g δe) := fun tp0 G0 H0 tp G H σ ρ τ D E P => by
  unfold dAug at P
  split at P
  · rename_i x h
    obtain ⟨v, h1, h2⟩ := Paired.getL E.v.s h
    cases v with
    | none => exact h2.elim
    | some v =>
      refine ⟨v, h1, he _ _ _ _ _ _ _ E.v (P.bind E fun d τ1 y G1 H1 E1 e1 r1 P1 => ?_)⟩
      cases hg : g x d with
      | none => rw [hg] at P1; exact P1.elim
      | some z =>
        rw [hg] at P1
        exact ho G1 H1 v y x d z _ E1.v.g (Rp.mono e1.g h2) r1 hg fun u G2 H2 e2 s2 r2 => P1 tp G2 H2 _ e2.g ((E1.step e2.weak (E1.v.grow e2 s2)).setF r2)
  · exact P.elim
/-- a, b = x, y -/
def dPar (i j : Nat) (a : DA) : DS := fun ρ τ => stE (a ρ τ) ρ fun ds τ1 => match ds with
  | [d, e] => .ok (.nx ((ρ.set i (some (.fr d))).set j (some (.fr e)))) τ1
  | _ => .no
variable {ta : TA} {δa : DA}
theorem ds_par {i j : Nat} (ha : DnA W Wx ta δa) : DnS W Wx (tPar i j ta) (dPar i j δa) := fun tp0 G0 H0 tp G H σ ρ τ D E P =>
  ha _ _ _ _ _ _ _ E.v (P.bind E fun ds τ1 vs G1 H1 E1 e1 r1 P1 => by
    split at P1
    · cases r1 with | cons r rs =>
      cases rs with | cons r' rs =>
      cases rs
      exact ⟨_, _, rfl, P1 tp G1 H1 _ (GS.refl _) ((E1.setF r).setF r')⟩
    · exact P1.elim)
/-- what is made new, as a slot's own -/
def PgF (W : Wp) (Wx : L2.St → XK) (tp : Option Addr) (σ : L2.St) (ρ : PEnv) (G : GH) (H : Hp) (Q : VK) : R OC → Prop
  | .ok c τ => ∀ p F G' H', Ext tp G H G' H' → EnvV W tp G' H' σ ρ τ → OwR W G' H' p c F → (∀ q ∈ F, H q = none ∧ G' q = none ∧ NoM tp G' q) → Q (.ref p) H'
  | .ex x τ => ∀ d G' H', Ext tp G H G' H' → EnvV W tp G' H' σ ρ τ → ExR W G' H' x d → Wx σ (.ref (W.cm x.cls)) d H'
  | .no => False
def DnF (W : Wp) (Wx : L2.St → XK) (t : TE) (δ : PEnv → TS' → R OC) : Prop := ∀ tp G H σ ρ τ (Q : VK), EnvV W tp G H σ ρ τ → PgF W Wx tp σ ρ G H Q (δ ρ τ) → t σ H Q
def dLstF (a : DA) : PEnv → TS' → R OC := fun ρ τ => (a ρ τ).bind fun x τ1 => if x.length ≤ sizeLine then .ok (.lst x) τ1 else .no
theorem Ext.back {p : Addr} {tp : Option Addr} {G G' : GH} {H H' : Hp} (e : Ext tp G H G' H') (n : H' p = none) : H p = none := by
  cases q : H p with
  | none => rfl
  | some o => exact (e.x p (by rw [q]; simp) n).elim
theorem fr1 {p : Addr} (n : H p = none) (g : G' p = none) (nt : NoM tp G' p) : ∀ q ∈ [p], H q = none ∧ G' q = none ∧ NoM tp G' q := fun q hq => by
  cases List.mem_singleton.mp hq
  exact ⟨n, g, nt⟩
theorem PgF.shift {Q : VK} {r : R OC} (P : PgF W Wx tp σ ρ G H Q r) (e : Ext tp G H G' H') : PgF W Wx tp σ ρ G' H' Q r := by
  cases r with
  | ok c τ => exact fun p F G2 H2 e2 E2 w fr => P p F G2 H2 (e.trans e2) E2 w fun q hq => ⟨e.back (fr q hq).1, (fr q hq).2⟩
  | ex x τ => exact fun d G2 H2 e2 => P d G2 H2 (e.trans e2)
  | no => exact P
theorem PgF.bind {α β : Type} {rel : Option Addr → GH → β → α → Prop} {Q : VK} {Q' : β → Hp → Prop} {r : R α} {f : α → TS' → R OC} (P : PgF W Wx tp σ ρ G H Q (r.bind f))
    (k : ∀ a τ1 b G1 H1, Ext tp G H G1 H1 → EnvV W tp G1 H1 σ ρ τ1 → rel tp G1 b a → PgF W Wx tp σ ρ G1 H1 Q (f a τ1) → Q' b H1) : Pg W Wx rel tp σ ρ G H Q' r := by
  cases r with
  | ok a τ1 => exact fun b G1 H1 e1 E1 r1 => k a τ1 b G1 H1 e1 E1 r1 (PgF.shift (r := f a τ1) P e1)
  | ex x τ1 => exact P
  | no => exact P
theorem df_lst (ha : DnA W Wx ta δa) : DnF W Wx (tLst ta) (dLstF δa) := fun tp G H σ ρ τ Q E P =>
  ha _ _ _ _ _ _ _ E (P.bind fun a τ1 x G1 H1 e1 E1 r1 P1 => by
    by_cases h : a.length ≤ sizeLine
    · rw [if_pos h] at P1
      exact ⟨by rw [r1.length]; exact h, fun p n => P1 p [p] G1 _ (Ext.newH n) (E1.newH n) ⟨rfl, _, upd_same, r1⟩ (fr1 n (E1.g.free n) (E1.noM n))⟩
    · rw [if_neg h] at P1
      exact P1.elim)
/-- a comprehension's list, as a slot's own -/
def dLcF (i : DI) (t : Tg) (c : DT) (e : DE) (vs : List Nat) : PEnv → TS' → R OC := fun ρ τ => (i ρ τ).bind fun ds τ1 => if ds.length ≤ sizeLine then (lcL t c e (wipeP ρ vs) ds τ1).bind fun ys τ2 => .ok (.lst ys) τ2 else .no
def dSetO (i : Nat) (e : PEnv → TS' → R OC) : DS := fun ρ τ => stE (e ρ τ) ρ fun c τ1 => .ok (.nx (ρ.set i (some (.ow c)))) τ1
/-- where a slot was set -/
theorem set_own {α : Type} {l : List (Option α)} {i j : Nat} {x y : α} (h : (l.set i (some x))[j]? = some (some y)) : (j = i ∧ x = y) ∨ (j ≠ i ∧ l[j]? = some (some y)) := by
  by_cases e : i = j
  · subst e
    by_cases hl : i < l.length
    · rw [List.getElem?_set_self hl] at h
      cases h
      exact .inl ⟨rfl, rfl⟩
    · rw [List.getElem?_eq_none (by rw [List.length_set]; omega)] at h
      cases h
  · rw [List.getElem?_set_ne e] at h
    exact .inr ⟨fun z => e z.symm, h⟩
theorem EnvV.setO {i : Nat} {p : Addr} {c : OC} {F : List Addr} (E : EnvV W tp G H σ ρ τ) (w : OwR W G H p c F) (fr : ∀ q ∈ F, G q = none ∧ NoM tp G q) (no : ∀ q ∈ F, FreeP W G H σ ρ q) :
    EnvV W tp G H (σ.set i (some (.ref p))) (ρ.set i (some (.ow c))) τ := by
  refine ⟨E.g, Paired.setL (show SlotR W tp G H (some (.ref p)) (some (.ow c)) from ⟨p, F, rfl, w, fr⟩) i E.s, fun j k a b c1 c2 F1 F2 h1 h2 h3 h4 w1 w2 q q1 q2 => ?_, E.t⟩
  rcases set_own h1 with ⟨rfl, e⟩ | ⟨nj, h1'⟩
  · cases e
    rcases set_own h3 with ⟨_, e⟩ | ⟨nj, _⟩
    · cases e
      rcases set_own h2 with ⟨rfl, _⟩ | ⟨nk, h2⟩
      · rfl
      · rw [List.getElem?_set_ne (fun z => nk z.symm)] at h4
        rw [w1.uniq w] at q1
        exact (no q q1 k c2 b F2 h2 h4 w2 q2).elim
    · exact (nj rfl).elim
  · rw [List.getElem?_set_ne (fun z => nj z.symm)] at h3
    rcases set_own h2 with ⟨rfl, e⟩ | ⟨nk, h2⟩
    · cases e
      rcases set_own h4 with ⟨_, e⟩ | ⟨nk, _⟩
      · cases e
        rw [w2.uniq w] at q2
        exact (no q q2 j c1 a F1 h1' h3 w1 q1).elim
      · exact (nk rfl).elim
    · rw [List.getElem?_set_ne (fun z => nk z.symm)] at h4
      exact E.d j k a b c1 c2 F1 F2 h1' h2 h3 h4 w1 w2 q q1 q2
theorem EnvS.freeT {p : Addr} (E : EnvS W tp0 G0 H0 tp G H σ ρ τ) (n : H p = none) : H0 p = none := by
  cases q : H0 p with
  | none => rfl
  | some o =>
    exact (E.e.x p (by rw [q]; simp) n).elim
theorem EnvS.setO {i : Nat} {p : Addr} {c : OC} {F : List Addr} (E : EnvS W tp0 G0 H0 tp G H σ ρ τ) (w : OwR W G H p c F) (fr : ∀ q ∈ F, G q = none ∧ NoM tp G q) (no : ∀ q ∈ F, FreeP W G H σ ρ q) (n0 : ∀ q ∈ F, H0 q = none) :
    EnvS W tp0 G0 H0 tp G H (σ.set i (some (.ref p))) (ρ.set i (some (.ow c))) τ := by
  refine ⟨E.v.setO w fr no, E.e, fun j c' a F' h1 h2 w' => ?_, E.t⟩
  rcases set_own h1 with ⟨rfl, e⟩ | ⟨nj, h1⟩
  · cases e
    rcases set_own h2 with ⟨_, e⟩ | ⟨nj, _⟩
    · cases e
      rw [w'.uniq w]
      exact n0
    · exact (nj rfl).elim
  · rw [List.getElem?_set_ne (fun z => nj z.symm)] at h2
    exact E.o j c' a F' h1 h2 w'
theorem ds_setO {i : Nat} {δ : PEnv → TS' → R OC} (he : DnF W Wx te δ) : DnS W Wx (tAsg te (gName i)) (dSetO i δ) := fun tp0 G0 H0 tp G H σ ρ τ D E P => by
  refine he _ _ _ _ _ _ _ E.v ?_
  unfold dSetO at P
  cases h : δ ρ τ with
  | no => rw [h] at P; exact P.elim
  | ex x τ1 => rw [h] at P; exact fun d G1 H1 e1 E1 hx => P d tp G1 H1 σ e1.g (E.step e1 E1) hx
  | ok c τ1 =>
    rw [h] at P
    intro p F G1 H1 e1 E1 w fr
    exact P tp G1 H1 _ e1.g ((E.step e1 E1).setO w (fun q hq => (fr q hq).2) (fun q hq => (E.v.noO (fr q hq).1).ext E.v e1) (fun q hq => E.freeT (fr q hq).1))
theorem set_self {α : Type} {l : List (Option α)} {i : Nat} {x : α} (h : l[i]? = some (some x)) : l.set i (some x) = l := by
  apply List.ext_getElem?
  intro n
  by_cases hn : i = n
  · subst hn
    rw [List.getElem?_set_self (List.getElem?_eq_some_iff.mp h).1, h]
  · rw [List.getElem?_set_ne hn]
theorem SB.mutF {F : List Addr} (g : SB W G H) (hH : ∀ q o, q ∉ F → H q = some o → H' q = some o) (hF : ∀ q ∈ F, G.hp q = none) (n : ∀ q ∈ F, NT H q) : SB W G H' :=
  ⟨fun q o hq => hH q o (fun z => by rw [hF q z] at hq; cases hq) (g.s q o hq), tabs_keep g.t fun p o ho h => hH p o (fun z => by
    obtain ⟨u, hu, hn⟩ := n p z
    rw [h] at hu
    cases hu
    rw [ho] at hn
    cases hn) h, g.n⟩
theorem TapeO.mutF {F : List Addr} (t : TapeO W G H tp τ) (hH : ∀ q o, q ∉ F → H q = some o → H' q = some o) (n : ∀ q ∈ F, NoM tp G q) : TapeO W G H' tp τ := by
  match tp, τ, t, n with
  | none, none, _, _ => trivial
  | some a, some τ, t, n =>
    obtain ⟨g, ⟨c, s, h⟩, ⟨u, hu, hn⟩, st⟩ := t
    have ha : a ∉ F := fun z => (n a z a rfl).1 rfl
    exact ⟨g, ⟨c, s, hH a _ ha h⟩, ⟨u, hH a _ ha hu, hn⟩, st.keep (GS.refl _) rfl (fun _ _ z => z) fun b hb u h => hH b u (fun z => (n b z a rfl).2 hb) h⟩
/-- an owned thing changes: nothing but its nodes; new nodes are of nobody -/
theorem EnvS.mutG {i : Nat} {a : Addr} {c c' : OC} {F F' : List Addr} (E : EnvS W tp0 G0 H0 tp G H σ ρ τ) (hi : ρ[i]? = some (some (PV.ow c))) (ha : σ[i]? = some (some (V.ref a))) (w : OwR W G H a c F)
    (hH : ∀ q o, q ∉ F → H q = some o → H' q = some o) (w' : OwR W G H' a c' F') (hF : ∀ q ∈ F', q ∈ F ∨ (FreeP W G H σ ρ q ∧ G q = none ∧ NoM tp G q ∧ H0 q = none)) :
    EnvS W tp0 G0 H0 tp G H' σ (ρ.set i (some (.ow c'))) τ := by
  obtain ⟨F0, w0, gn⟩ := E.v.own hi ha
  cases w0.uniq w
  have kp : ∀ {j : Nat} {d : OC} {b : Addr} {F1 : List Addr}, j ≠ i → ρ[j]? = some (some (PV.ow d)) → σ[j]? = some (some (V.ref b)) → OwR W G H b d F1 → OwR W G H' b d F1 := fun {j d b F1} hj h1 h2 w1 => w1.keep (GS.refl _) fun q hq o => hH q o fun z => hj (E.v.d j i b a d c F1 F h1 hi h2 ha w1 w q hq z)
  have gs : SB W G H' := E.v.g.mutF hH (fun q hq => (gn q hq).1) w.nt
  have fr' : ∀ q ∈ F', G q = none ∧ NoM tp G q := fun q hq => (hF q hq).elim (gn q) fun z => ⟨z.2.1, z.2.2.1⟩
  have bk : ∀ {j : Nat} {d : OC} {b : Addr} {F1 : List Addr}, j ≠ i → ρ[j]? = some (some (PV.ow d)) → σ[j]? = some (some (V.ref b)) → OwR W G H' b d F1 → OwR W G H b d F1 := fun {j d b F1} hj h1 h2 w1 => by
    obtain ⟨F2, w2, _⟩ := E.v.own h1 h2
    rw [w1.uniq (kp hj h1 h2 w2)]
    exact w2
  have dj : ∀ {j : Nat} {d : OC} {b : Addr} {F1 : List Addr}, j ≠ i → ρ[j]? = some (some (PV.ow d)) → σ[j]? = some (some (V.ref b)) → OwR W G H b d F1 → ∀ q ∈ F', q ∉ F1 := fun {j d b F1} hj h1 h2 w1 q hq q1 => by
    rcases hF q hq with z | z
    · exact hj (E.v.d j i b a d c F1 F h1 hi h2 ha w1 w q q1 z)
    · exact z.1 j d b F1 h1 h2 w1 q1
  have hl : i < ρ.length := (List.getElem?_eq_some_iff.mp hi).1
  refine ⟨⟨gs, ?_, fun j k b1 b2 c1 c2 F1 F2 h1 h2 h3 h4 w1 w2 q q1 q2 => ?_, ?_⟩, ⟨E.e.g, fun p u n t h => hH p u (fun z => ?_) (E.e.h p u n t h), E.e.f, fun p hp => ?_, E.e.w, E.e.z⟩, fun j c1 b F1 h1 h2 w1 q hq => ?_, E.t⟩
  · have base : Paired (fun x y => SlotR W tp G H' x y ∨ ∃ c, y = some (PV.ow c)) σ ρ := Paired.mapI E.v.s fun j v q hv hq h => by
      match v, q, h with
      | _, none, _ => exact .inl (by cases v <;> trivial)
      | some v, some (.fr d), h => exact .inl h
      | some v, some (.ow c1), h => exact .inr ⟨_, rfl⟩
      | some v, some .tape, h => exact .inl h
      | some v, some (.scr ns), h => exact .inl h
      | some v, some (.fn x), h => exact .inl h
      | some v, some .thk, ⟨f, c1, q1, g, a1, b, s, n, h⟩ => exact .inl ⟨f, c1, q1, g, a1, b, s, n, hH c1 _ (fun z => code_ne h (w.nt c1 z) rfl) h⟩
    have fin : Paired (SlotR W tp G H') (σ.set i (some (V.ref a))) (ρ.set i (some (PV.ow c'))) := by
      have := Paired.setL (F := fun x y => SlotR W tp G H' x y ∨ ∃ c, y = some (PV.ow c)) (x := some (V.ref a)) (y := some (PV.ow c')) (.inr ⟨_, rfl⟩) i base
      refine Paired.mapI this fun j v q hv hq h => ?_
      rcases h with h | ⟨c1, rfl⟩
      · exact h
      · rcases set_own hq with ⟨rfl, e⟩ | ⟨nj, hq⟩
        · cases e
          rw [set_self ha] at hv
          rw [ha] at hv
          cases hv
          exact ⟨a, F', rfl, w', fr'⟩
        · rw [List.getElem?_set_ne (fun z => nj z.symm)] at hv
          obtain ⟨b, F1, h2, w1, gn1⟩ := E.v.ownS hq
          rw [hv] at h2
          cases h2
          exact ⟨b, F1, rfl, kp nj hq hv w1, gn1⟩
    rw [set_self ha] at fin
    exact fin
  · rcases set_own h1 with ⟨rfl, e⟩ | ⟨nj, h1'⟩
    · cases e
      rcases set_own h2 with ⟨rfl, _⟩ | ⟨nk, h2⟩
      · rfl
      · rw [ha] at h3
        cases h3
        rw [w1.uniq w'] at q1
        exact (dj nk h2 h4 (bk nk h2 h4 w2) q q1 q2).elim
    · rcases set_own h2 with ⟨rfl, e⟩ | ⟨nk, h2⟩
      · cases e
        rw [ha] at h4
        cases h4
        rw [w2.uniq w'] at q2
        exact (dj nj h1' h3 (bk nj h1' h3 w1) q q2 q1).elim
      · exact E.v.d j k b1 b2 c1 c2 F1 F2 h1' h2 h3 h4 (bk nj h1' h3 w1) (bk nk h2 h4 w2) q q1 q2
  · exact E.v.t.mutF hH fun q hq => (gn q hq).2
  · rw [E.o i c a F hi ha w p z] at h
    cases h
  · have z := E.e.x p hp
    cases q : H p with
    | none => exact (z q).elim
    | some o => rw [hH p o (fun hF => hp (E.o i c a F hi ha w p hF)) q]; simp
  · rcases set_own h1 with ⟨rfl, e⟩ | ⟨nj, h1⟩
    · cases e
      rw [ha] at h2
      cases h2
      rw [w1.uniq w'] at hq
      rcases hF q hq with z | z
      · exact E.o _ c a F hi ha w q z
      · exact z.2.2.2
    · exact E.o j c1 b F1 h1 h2 (bk nj h1 h2 w1) q hq
/-- a list or dict of a slot changes -/
theorem EnvS.mut {i : Nat} {a : Addr} {c c' : OC} {o : HO} (E : EnvS W tp0 G0 H0 tp G H σ ρ τ) (hi : ρ[i]? = some (some (PV.ow c))) (ha : σ[i]? = some (some (V.ref a))) (w : OwR W G H a c [a]) (w' : OwR W G (upd H a o) a c' [a]) :
    EnvS W tp0 G0 H0 tp G (upd H a o) σ (ρ.set i (some (.ow c'))) τ :=
  E.mutG hi ha w (fun q u hq h => by rw [upd_ne (fun z => hq (by rw [z]; simp))]; exact h) w' fun q hq => .inl hq
theorem EnvS.getO {i : Nat} {c : OC} (E : EnvS W tp0 G0 H0 tp G H σ ρ τ) (hi : ρ[i]? = some (some (PV.ow c))) : ∃ a F, σ[i]? = some (some (V.ref a)) ∧ OwR W G H a c F := by
  obtain ⟨a, F, h, w, _⟩ := E.v.ownS hi
  exact ⟨a, F, h, w⟩
/-- x.append(e) -/
def dApp (i : Nat) (e : DE) : DS := fun ρ τ => match ρ[i]? with
  | some (some (.ow (.lst xs))) => stE (e ρ τ) ρ fun d τ1 => if xs.length < sizeLine then .ok (.nx (ρ.set i (some (.ow (.lst (xs ++ [d])))))) τ1 else .no
  | _ => .no
theorem ds_app {i : Nat} (he : Dn W Wx te δe) : DnS W Wx (tDrop (tBM W.K "list" rAppend (tVar i) (tCons te tNil))) (dApp i δe) := fun tp0 G0 H0 tp G H σ ρ τ D E P => by
  unfold dApp at P
  split at P
  · rename_i xs hi
    obtain ⟨a, _, ha, rfl, vs, hv, rv⟩ := E.getO hi
    refine ⟨_, ha, .inl ⟨rfl, vs, SqL.of hv⟩, he _ _ _ _ _ _ _ E.v (P.bind E fun d τ1 y G1 H1 E1 e1 r1 P1 => ?_)⟩
    obtain ⟨b, _, hb, rfl, ws, hw, rw'⟩ := E1.getO hi
    rw [ha] at hb
    cases hb
    by_cases hl : xs.length < sizeLine
    · rw [if_pos hl] at P1
      exact ⟨a, ws, y, rfl, rfl, hw, by rw [rw'.length]; exact hl, P1 tp G1 _ σ (GS.refl _) (E1.mut hi ha ⟨rfl, ws, hw, rw'⟩ ⟨rfl, _, upd_same, rw'.append (.cons r1 .nil)⟩)⟩
    · rw [if_neg hl] at P1
      exact P1.elim
  · exact P.elim
/-- x.extend(e) -/
def dExt (i : Nat) (e : DE) : DS := fun ρ τ => match ρ[i]? with
  | some (some (.ow (.lst xs))) => stE (e ρ τ) ρ fun d τ1 => match d with
    | .lst ys => if xs.length + ys.length ≤ sizeLine then .ok (.nx (ρ.set i (some (.ow (.lst (xs ++ ys)))))) τ1 else .no
    | _ => .no
  | _ => .no
theorem ds_ext {i : Nat} (he : Dn W Wx te δe) : DnS W Wx (tDrop (tBM W.K "list" rExtend (tVar i) (tCons te tNil))) (dExt i δe) := fun tp0 G0 H0 tp G H σ ρ τ D E P => by
  unfold dExt at P
  split at P
  · rename_i xs hi
    obtain ⟨a, _, ha, rfl, vs, hv, rv⟩ := E.getO hi
    refine ⟨_, ha, .inl ⟨rfl, vs, SqL.of hv⟩, he _ _ _ _ _ _ _ E.v (P.bind E fun d τ1 y G1 H1 E1 e1 r1 P1 => ?_)⟩
    obtain ⟨b, _, hb, rfl, ws, hw, rw'⟩ := E1.getO hi
    rw [ha] at hb
    cases hb
    cases r1 <;> first | exact P1.elim | skip
    rename_i ys h r
    by_cases hl : xs.length + ys.length ≤ sizeLine
    · simp only [if_pos hl] at P1
      exact ⟨a, _, ws, _, rfl, rfl, hw, E1.v.g _ _ h, by rw [rw'.length, r.length]; exact hl, P1 tp G1 _ σ (GS.refl _) (E1.mut hi ha ⟨rfl, ws, hw, rw'⟩ ⟨rfl, _, upd_same, rw'.append r⟩)⟩
    · simp only [if_neg hl] at P1
      exact P1.elim
  · exact P.elim
/-- x.reverse(), x.clear() -/
def dRevO (i : Nat) : DS := fun ρ τ => match ρ[i]? with
  | some (some (.ow (.lst xs))) => .ok (.nx (ρ.set i (some (.ow (.lst xs.reverse))))) τ
  | _ => .no
/-- x[k] = e -/
def dPutL (i : Nat) (k e : DE) : DS := fun ρ τ => stE (e ρ τ) ρ fun d τ1 => match ρ[i]? with
  | some (some (.ow (.lst xs))) => stE (k ρ τ1) ρ fun n τ2 => match n with
    | .int n => match ixN xs.length n with
      | some j => .ok (.nx (ρ.set i (some (.ow (.lst (xs.set j d)))))) τ2
      | none => .no
    | _ => .no
  | _ => .no
theorem ds_putL {i : Nat} {tk : TE} {δk : DE} (hk : Dn W Wx tk δk) (he : Dn W Wx te δe) : DnS W Wx (tAsg te (L2.gSub (tVar i) tk rSetL)) (dPutL i δk δe) := fun tp0 G0 H0 tp G H σ ρ τ D E P =>
  he _ _ _ _ _ _ _ E.v (P.bind E fun d τ1 y G1 H1 E1 e1 r1 P1 => by
    split at P1
    · rename_i xs hi
      obtain ⟨a, _, ha, rfl, vs, hv, rv⟩ := E1.getO hi
      refine ⟨_, ha, hk _ _ _ _ _ _ _ E1.v (P1.bind E1 fun n τ2 z G2 H2 E2 e2 r2 P2 => ?_)⟩
      cases r2 <;> first | exact P2.elim | skip
      rename_i n
      obtain ⟨b, _, hb, rfl, ws, hw, rw'⟩ := E2.getO hi
      rw [ha] at hb
      cases hb
      cases hj : ixN xs.length n with
      | none => simp only [hj] at P2; exact P2.elim
      | some j =>
        simp only [hj] at P2
        exact ⟨a, ws, n, j, rfl, rfl, hw, by rw [rw'.length]; exact hj, P2 tp G2 _ σ (GS.refl _) (E2.mut hi ha ⟨rfl, ws, hw, rw'⟩ ⟨rfl, _, upd_same, RpA.set (Rp.mono e2.g r1) j rw'⟩)⟩
    · exact P1.elim)
mutual
def otD : OT → DD
  | .fr d => d
  | .nd .lst ts => .lst (otDs ts)
  | .nd (.dK ks) ts => .dic (ks.zip (otDs ts))
  | .nd (.obj C ns) ts => .obj C (ns.zip (otDs ts))
def otDs : List OT → List DD
  | [] => []
  | t :: ts => otD t :: otDs ts
end
def ocD : OC → DD
  | .lst xs => .lst xs
  | .dK xs => .dic xs
  | .tr k ts => otD (.nd k ts)
theorem rpk_zip {K : PySem.W.Frag} {cm : CM} : ∀ {ks : List Key} {vs : List V} {ds : List DD}, RpA K cm G vs ds → RpK K cm G (ks.zip vs) (ks.zip ds)
  | [], _, _, _ => .nil
  | k :: ks, _, _, .nil => .nil
  | k :: ks, _, _, .cons h r => .cons h (rpk_zip r)
theorem rpf_zip {K : PySem.W.Frag} {cm : CM} : ∀ {ks : List Str} {vs : List V} {ds : List DD}, RpA K cm G vs ds → RpF K cm G (ks.zip vs) (ks.zip ds)
  | [], _, _, _ => .nil
  | k :: ks, _, _, .nil => .nil
  | k :: ks, _, _, .cons h r => .cons h (rpf_zip r)
mutual
theorem Ow.rp : ∀ {v : V} {t : OT} {F : List Addr}, Ow W G H v t F → GS G G' → (∀ q ∈ F, G' q = H q) → Rp W.K W.cm G' v (otD t)
  | _, _, _, .fr r, g, _ => by rw [otD]; exact Rp.mono g r
  | _, _, _, .nd (a := a) (k := k) (vs := vs) (ts := ts) h r n, g, e => by
    have ra := OwA.rp r g fun q hq => e q (List.mem_cons_of_mem _ hq)
    have ea := e a List.mem_cons_self
    cases k with
    | lst => rw [otD]; exact .lst (by rw [ea]; exact h) ra
    | dK ks => rw [otD]; exact .dic (by rw [ea]; exact h.2) (rpk_zip ra)
    | obj C ns => rw [otD]; obtain ⟨_, dx, h⟩ := h; exact .obj (by rw [ea]; exact h) (rpf_zip ra)
theorem OwA.rp : ∀ {v : List V} {t : List OT} {F : List Addr}, OwA W G H v t F → GS G G' → (∀ q ∈ F, G' q = H q) → RpA W.K W.cm G' v (otDs t)
  | _, _, _, .nil, _, _ => by rw [otDs]; exact .nil
  | _, _, _, .cons h r n, g, e => by rw [otDs]; exact .cons (Ow.rp h g fun q hq => e q (List.mem_append_left _ hq)) (OwA.rp r g fun q hq => e q (List.mem_append_right _ hq))
end
theorem OwR.rp {a : Addr} {c : OC} {F : List Addr} (w : OwR W G H a c F) (g : GS G G') (e : ∀ q ∈ F, G' q = H q) : Rp W.K W.cm G' (.ref a) (ocD c) := by
  cases c with
  | lst xs => obtain ⟨rfl, vs, h, r⟩ := w; exact .lst (by rw [e a (by simp)]; exact h) (r.mono g)
  | dK xs => obtain ⟨rfl, vs, h, r⟩ := w; exact .dic (by rw [e a (by simp)]; exact h) (r.mono g)
  | tr k ts => exact Ow.rp (show Ow W G H _ _ _ from w) g e
/-- the heap of what stays, with some more -/
def upF (G : GH) (H : Hp) (F : List Addr) : GH := ⟨fun q => if q ∈ F then H q else G q, G.ads⟩
theorem upF_in {F : List Addr} : ∀ q ∈ F, (upF G H F).hp q = H q := fun q hq => if_pos hq
theorem upF_out {F : List Addr} {q : Addr} (h : q ∉ F) : (upF G H F).hp q = G.hp q := if_neg h
theorem upF_same {F : List Addr} (h : ∀ q ∈ F, G q = none) : GS G (upF G H F) := ⟨fun q o hq => by
  rw [upF_out (fun z => by rw [h q z] at hq; cases hq)]; exact hq, List.prefix_rfl⟩
theorem SB.upF {F : List Addr} (g : SB W G H) (n : ∀ q ∈ F, NT H q) : SB W (upF G H F) H := by
  refine ⟨fun q u hq => ?_, g.t, fun q hq => ?_⟩
  · by_cases z : q ∈ F
    · rw [upF_in q z] at hq
      exact hq
    · rw [upF_out z] at hq
      exact g.s q u hq
  · obtain ⟨ps, e, _⟩ := g.t q hq
    rw [upF_out (fun z => by
      obtain ⟨o, ho, hn⟩ := n q.1 z
      rw [e] at ho
      cases ho
      cases hn)]
    exact g.n q hq
/-- things that no slot has stay from now on -/
theorem EnvV.freezeF {F : List Addr} (E : EnvV W tp G H σ ρ τ) (g : ∀ q ∈ F, G q = none ∧ NoM tp G q) (n : ∀ q ∈ F, NT H q) (no : ∀ q ∈ F, FreeP W G H σ ρ q) : EnvV W tp (upF G H F) H σ ρ τ := by
  have s1 : GS G (upF G H F) := upF_same fun q hq => (g q hq).1
  refine ⟨E.g.upF n, Paired.mapI E.s fun j v q hv hq' h => ?_, fun i j a b c c' F1 F2 h1 h2 h3 h4 w w' => E.d i j a b c c' F1 F2 h1 h2 h3 h4 (E.back s1 (fun _ _ _ h => h) h1 h3 w) (E.back s1 (fun _ _ _ h => h) h2 h4 w'), ?_⟩
  · match v, q, h with
    | _, none, _ => cases v <;> trivial
    | some v, some (.fr d), h => exact Rp.mono s1 h
    | some v, some (.ow c), ⟨a, F1, r, w, gn⟩ =>
      subst r
      exact ⟨a, F1, rfl, w.keep s1 fun _ _ o h => h, fun q hq => ⟨by rw [upF_out (fun z => no q z j c a F1 hq' hv w hq)]; exact (gn q hq).1, (gn q hq).2⟩⟩
    | some v, some .tape, h => exact h
    | some v, some (.scr ns), ⟨a, r, q⟩ => exact ⟨a, r, s1.seq q⟩
    | some v, some (.fn x), h => exact h
    | some v, some .thk, ⟨f, c, q, g, a, b, s, n, h⟩ => exact ⟨f, c, q, g, a, b, s.trans s1, n, h⟩
  · refine E.t.frz s1.s rfl fun q hq hm => ?_
    cases tp with
    | none => exact .inr rfl
    | some a =>
      refine .inl ?_
      rw [upF_out (fun z => by rcases hm a rfl with h | h; exact ((g q z).2 a rfl).1 h; exact ((g q z).2 a rfl).2 h)]
      exact hq
def frz (i : Nat) (ρ : PEnv) : PEnv := match ρ[i]? with
  | some (some (.ow c)) => ρ.set i (some (.fr (ocD c)))
  | _ => ρ
def dFrz (i : Nat) (a : DS) : DS := fun ρ τ => a (frz i ρ) τ
theorem EnvV.frzO {i : Nat} {a : Addr} {c : OC} {F : List Addr} (E : EnvV W tp G H σ ρ τ) (hi : ρ[i]? = some (some (PV.ow c))) (ha : σ[i]? = some (some (V.ref a))) (w : OwR W G H a c F) :
    GS G (upF G H F) ∧ EnvV W tp (upF G H F) H σ (ρ.set i (some (.fr (ocD c)))) τ := by
  obtain ⟨F0, w0, gn⟩ := E.own hi ha
  cases w0.uniq w
  have s1 : GS G (upF G H F) := upF_same fun q hq => (gn q hq).1
  -- first the slot is emptied, then the thing stays, then the slot has it again
  have E1 : EnvV W tp G H (σ.set i none) (ρ.set i none) τ := E.setN
  have E2 := E1.freezeF (F := F) gn w.nt fun q hq j c' b F1 q1 q2 w1 z => by
    obtain ⟨n1, q1'⟩ := set_get q1 (by simp)
    obtain ⟨n2, q2'⟩ := set_get q2 (by simp)
    exact n1 (E.d j i b a c' c F1 F q1' hi q2' ha w1 w q z hq)
  have E3 := E2.setF (i := i) (w.rp s1 upF_in)
  rw [List.set_set, List.set_set, set_self ha] at E3
  exact ⟨s1, E3⟩
theorem EnvS.frz (E : EnvS W tp0 G0 H0 tp G H σ ρ τ) (i : Nat) : ∃ G', GS G G' ∧ EnvS W tp0 G0 H0 tp G' H σ (Np.frz i ρ) τ := by
  unfold Np.frz
  split
  · rename_i c hi
    obtain ⟨a, F, ha, w⟩ := E.getO hi
    obtain ⟨s, E'⟩ := E.v.frzO hi ha w
    refine ⟨_, s, E', ⟨E.e.g.trans s, E.e.h, fun p n hp hg => ?_, E.e.x, E.e.w, E.e.z⟩, fun j c' b F' q1 q2 w' => ?_, E.t⟩
    · rw [upF_out (fun z => hp (E.o i c a F hi ha w p z))]
      exact E.e.f p n hp hg
    · obtain ⟨n1, q1'⟩ := set_get q1 (by simp)
      exact E.o j c' b F' q1' q2 (E.v.back s (fun _ _ _ h => h) q1' q2 w')
  · exact ⟨G, GS.refl _, E⟩
theorem ds_frz {i : Nat} (h : DnS W Wx t δt) : DnS W Wx t (dFrz i δt) := fun tp0 G0 H0 tp G H σ ρ τ D E P => by
  obtain ⟨G', s, E'⟩ := E.frz i
  exact h _ _ _ _ _ _ _ _ _ _ E' (Ps.shift P s)
end
end Np
set_option Elab.async false
set_option linter.all false
set_option maxRecDepth 100000
set_option maxHeartbeats 4000000
namespace Np
open PySem PySem.Spec PyProof.Rows L2
section
variable {W : Wp} {Wx : L2.St → XK} {tp0 tp tp' : Option Addr} {G0 G G' : GH} {H0 H H' : Hp} {σ : L2.St} {ρ : PEnv} {τ τ' : TS'} {D : Ends}
variable {te : TE} {δe : DE} {t u : L2.TS} {δt δu : DS} {tc : TT} {δc : DT} {ta : TA} {δa : DA}
/-- how a turn of a loop ends -/
def turnEnd (r : R Ct) (k : PEnv → TS' → R Ct) : R Ct := match r with
  | .ok (.nx ρ) τ => k ρ τ
  | .ok (.ct ρ) τ => k ρ τ
  | .ok (.bk ρ) τ => .ok (.nx ρ) τ
  | r => r
def forL (g : Tg) (b : DS) : List DD → DS
  | [], ρ, τ => .ok (.nx ρ) τ
  | d :: ds, ρ, τ => match tgF g d ρ with
    | some ρ1 => turnEnd (b ρ1 τ) (forL g b ds)
    | none => .no
def dFor (i : DI) (g : Tg) (b : DS) : DS := fun ρ τ => stE (i ρ τ) ρ fun ds τ1 => forL g b ds ρ τ1
theorem Ps.turn {r : R Ct} {k : PEnv → TS' → R Ct} {N : L2.St → Hp → Prop} (P : Ps W Wx tp0 G0 H0 G D (turnEnd r k))
    (hN : ∀ ρ τ tp' G' H' σ', GS G G' → EnvS W tp0 G0 H0 tp' G' H' σ' ρ τ → Ps W Wx tp0 G0 H0 G' D (k ρ τ) → N σ' H') : Ps W Wx tp0 G0 H0 G { D with nx := N, ct := N, bk := D.nx } r := by
  match r, P with
  | .ok (.nx ρ) τ, P => exact fun tp' G' H' σ' s E => hN ρ τ tp' G' H' σ' s E (Ps.shift P s)
  | .ok (.ct ρ) τ, P => exact fun tp' G' H' σ' s E => hN ρ τ tp' G' H' σ' s E (Ps.shift P s)
  | .ok (.bk ρ) τ, P => exact P
  | .ok (.rt d) τ, P => exact P
  | .ok (.ro d) τ, P => exact P
  | .ok (.xc x ρ) τ, P => exact P
  | .ex x τ, P => exact P.elim
  | .no, P => exact P.elim
theorem ds_for {wi : TI} {δi : DI} {g : Tg} (hi : DnI W Wx wi δi) (hb : DnS W Wx t δt) : DnS W Wx (tFor wi (tgG W.K g) t) (dFor δi g δt) := fun tp0 G0 H0 tp G H σ ρ τ D E P =>
  hi _ _ _ _ _ _ _ E.v (P.bind E fun ds τ1 J G1 H1 E1 e1 it P1 => by
    have w : Walk J ds.length (fun H => SB W G1 H) (fun i H x H' => ∀ d Gc, ds[i]? = some d → GS G1 Gc → SB W Gc H → ∃ G', Ext none Gc H G' H' ∧ SB W G' H' ∧ Rp W.K W.cm G' x d) :=
      ⟨fun i H hi s => it.go i H s hi, fun H s => it.stop H s, fun i H x H' hi s y d Gc hd s1 s2 => it.yld i d Gc H x H' s1 s2 hd y⟩
    refine for_it w (fun i σc Hc => ∃ tpc Gc ρc τc, EnvS W tp0 G0 H0 tpc Gc Hc σc ρc τc ∧ GS G1 Gc ∧ Ps W Wx tp0 G0 H0 Gc D (forL g δt (ds.drop i) ρc τc)) ⟨tp, G1, ρ, τ1, E1, GS.refl _, P1⟩ (fun i σc Hc _ h => ?_) ?_ ?_
    · obtain ⟨tpc, Gc, ρc, τc, Ec, sc, _⟩ := h
      exact sc.sb Ec.v.g
    · rintro i x σc Hc Hc' hi ⟨tpc, Gc, ρc, τc, Ec, sc, Pc⟩ y
      obtain ⟨d, hd⟩ : ∃ d, ds[i]? = some d := ⟨ds[i], List.getElem?_eq_getElem hi⟩
      have hdr : ds.drop i = d :: ds.drop (i + 1) := by
        obtain ⟨h1, h2⟩ := List.getElem?_eq_some_iff.mp hd
        rw [List.drop_eq_getElem_cons h1, h2]
      obtain ⟨Gd, ed, sd, rd⟩ := y d Gc hd sc Ec.v.g
      have Ed := Ec.step ed.weak (Ec.v.grow ed sd)
      rw [hdr, forL] at Pc
      cases hf : tgF g d ρc with
      | none => rw [hf] at Pc; exact Pc.elim
      | some ρ1 =>
        rw [hf] at Pc
        refine tg_run g Ed.v rd hf fun σ2 E2 s2 _ => hb _ _ _ _ _ _ _ _ _ _ (Ed.sub E2 s2) (Ps.turn (Ps.shift Pc ed.g) fun ρ3 τ3 tp3 G3 H3 σ3 s3 E3 P3 => ?_)
        exact ⟨tp3, G3, ρ3, τ3, E3, sc.trans (ed.g.trans s3), P3⟩
    · rintro σc Hc ⟨tpc, Gc, ρc, τc, Ec, sc, Pc⟩
      rw [List.drop_length, forL] at Pc
      exact Pc tpc Gc Hc σc (GS.refl _) Ec)
/-- so many turns at most -/
def whileN (c : DT) (b : DS) : Nat → DS
  | 0, _, _ => .no
  | n + 1, ρ, τ => stE (c ρ τ) ρ fun x τ1 => if x = true then turnEnd (b ρ τ1) (whileN c b n) else .ok (.nx ρ) τ1
def dWhile (n : Nat) (c : DT) (b : DS) : DS := whileN c b n
theorem ds_while {n : Nat} (hc : DnT W Wx tc δc) (hb : DnS W Wx t δt) : DnS W Wx (tWhile tc t) (dWhile n δc δt) := fun tp0 G0 H0 tp G H σ ρ τ D E P => by
  refine ⟨fun m σc Hc => ∃ tpc Gc ρc τc, EnvS W tp0 G0 H0 tpc Gc Hc σc ρc τc ∧ Ps W Wx tp0 G0 H0 Gc D (whileN δc δt m ρc τc), ⟨n, tp, G, ρ, τ, E, P⟩, ?_⟩
  rintro m σc Hc ⟨tpc, Gc, ρc, τc, Ec, Pc⟩
  cases m with
  | zero => exact Pc.elim
  | succ m =>
    rw [whileN] at Pc
    refine hc _ _ _ _ _ _ _ Ec.v (Pc.bind Ec fun b τ1 v G1 H1 E1 e1 r1 P1 => ?_)
    cases r1
    cases b with
    | false => exact iteF (P1 tpc G1 H1 _ (GS.refl _) E1)
    | true =>
      refine iteT ⟨fun σ' H' => ∃ tpc Gc ρc τc, EnvS W tp0 G0 H0 tpc Gc H' σ' ρc τc ∧ Ps W Wx tp0 G0 H0 Gc D (whileN δc δt m ρc τc), fun σ' H' h => ⟨m, Nat.lt_succ_self _, h⟩, ?_⟩
      exact hb _ _ _ _ _ _ _ _ _ _ E1 (Ps.turn P1 fun ρ3 τ3 tp3 G3 H3 σ3 s3 E3 P3 => ⟨tp3, G3, ρ3, τ3, E3, P3⟩)
def hid : Option PV → Option PV
  | some .tape => none
  | p => p
def bor (i : Nat) (c : OC) (ρ : PEnv) : PEnv := (ρ.map hid).set i (some (.fr (ocD c)))
def flatD : DD → Bool
  | .non => true
  | .bl _ => true
  | .int _ => true
  | .str _ => true
  | _ => false
theorem flatD_any {d : DD} {v : V} (h : flatD d = true) (r : Rp W.K W.cm G v d) (G' : GH) : Rp W.K W.cm G' v d := by
  cases r <;> first | (cases h; done) | exact .non | exact .bl _ | exact .int _ | exact .str _
theorem Paired.mapR {α β γ : Type} {F : α → β → Prop} {F' : α → γ → Prop} {f : β → γ} : ∀ {xs : List α} {ys : List β}, Paired F xs ys → (∀ x y, F x y → F' x (f y)) → Paired F' xs (ys.map f)
  | _, _, .nil, _ => .nil
  | _, _, .cons h t, k => .cons (k _ _ h) (Paired.mapR t k)
theorem hid_ow {ρ : PEnv} {j : Nat} {c : OC} (h : (ρ.map hid)[j]? = some (some (PV.ow c))) : ρ[j]? = some (some (PV.ow c)) := by
  rw [List.getElem?_map] at h
  obtain ⟨p, h1, h2⟩ := Option.map_eq_some_iff.mp h
  rw [h1]
  cases p with
  | none => cases h2
  | some p => cases p <;> first | (cases h2; done) | (exact congrArg some h2)
theorem EnvV.hide (E : EnvV W tp G H σ ρ τ) : EnvV W none G H σ (ρ.map hid) none := by
  refine ⟨E.g, Paired.mapR E.s fun x y h => ?_, fun i j a b c c' F F' h1 h2 => E.d i j a b c c' F F' (hid_ow h1) (hid_ow h2), trivial⟩
  match x, y, h with
  | _, none, _ => cases x <;> trivial
  | some v, some (.fr d), h => exact h
  | some v, some (.ow c), ⟨a, F, r, w, gn⟩ => exact ⟨a, F, r, w, fun q hq => ⟨(gn q hq).1, NoM.none⟩⟩
  | some v, some .tape, h => trivial
  | some v, some (.scr ns), h => exact h
  | some v, some (.fn x), h => exact h
  | some v, some .thk, ⟨f, c, q, g, a, b, s, n, h⟩ => exact ⟨f, c, q, g, a, b, s, NoM.none, h⟩
theorem borrow {i : Nat} {c : OC} (E : EnvV W tp G H σ ρ τ) (hi : ρ[i]? = some (some (PV.ow c))) : ∃ G1, GS G G1 ∧ EnvV W none G1 H σ (bor i c ρ) none := by
  obtain ⟨a, F, h1, w, _⟩ := E.ownS hi
  obtain ⟨s, e⟩ := E.hide.frzO (i := i) (c := c) (by rw [List.getElem?_map, hi]; rfl) h1 w
  exact ⟨_, s, e⟩
theorem EnvV.after {G1 G2 : GH} (E : EnvV W tp G H σ ρ τ) (s : GS G G1) (e : Ext none G1 H G2 H') (g : SB W G2 H') : Ext tp G H G H' ∧ EnvV W tp G H' σ ρ τ := by
  have e0 := e
  have e : Ext none G H G H' := ⟨GS.refl _, fun p o _ => e.h p o NoM.none, fun _ _ _ q => q, e.x, fun _ => .inl, fun _ => rfl⟩
  exact ⟨e.weak, E.grow e ⟨(s.s.trans e0.g.s).trans g.s, g.t, E.g.n⟩⟩
/-- e, where an owned slot is looked at: a flat answer -/
def dBor (i : Nat) (e : DE) : DE := fun ρ τ => match ρ[i]? with
  | some (some (.ow c)) => match e (bor i c ρ) none with
    | .ok d _ => if flatD d = true then .ok d τ else .no
    | _ => .no
  | _ => .no
def dBorT (i : Nat) (e : DT) : DT := fun ρ τ => match ρ[i]? with
  | some (some (.ow c)) => match e (bor i c ρ) none with
    | .ok d _ => .ok d τ
    | _ => .no
  | _ => .no
theorem dn_bor {i : Nat} (he : Dn W W0 te δe) : Dn W Wx te (dBor i δe) := fun tp G H σ ρ τ Q E P => by
  unfold dBor at P
  split at P
  · rename_i c hi
    obtain ⟨G1, s1, E1⟩ := borrow E hi
    refine he _ _ _ _ _ _ _ E1 ?_
    split at P
    · rename_i d τ1 h
      rw [h]
      split at P
      · rename_i hf
        intro v G2 H2 e2 E2 r2
        obtain ⟨a1, a2⟩ := E.after s1 e2 E2.g
        exact P v G H2 a1 a2 (flatD_any hf r2 G)
      · exact P.elim
    · exact P.elim
  · exact P.elim
theorem dt_bor {i : Nat} (he : DnT W W0 tc δc) : DnT W Wx tc (dBorT i δc) := fun tp G H σ ρ τ Q E P => by
  unfold dBorT at P
  split at P
  · rename_i c hi
    obtain ⟨G1, s1, E1⟩ := borrow E hi
    refine he _ _ _ _ _ _ _ E1 ?_
    split at P
    · rename_i d τ1 h
      rw [h]
      intro v G2 H2 e2 E2 r2
      obtain ⟨a1, a2⟩ := E.after s1 e2 E2.g
      exact P v G H2 a1 a2 r2
    · exact P.elim
  · exact P.elim
end
abbrev Fn := List PV → TS' → R DD
def FnPost (W : Wp) (tp : Option Addr) (G : GH) (H : Hp) (Q : VK) (E : XK) : R DD → Prop
  | .ok d τ' => ∀ v G' H', Ext tp G H G' H' → SB W G' H' → TapeO W G' H' tp τ' → Rp W.K W.cm G' v d → Q v H'
  | .ex x τ' => ∀ d G' H', Ext tp G H G' H' → SB W G' H' → TapeO W G' H' tp τ' → ExR W G' H' x d → E (.ref (W.cm x.cls)) d H'
  | .no => False
def spP (W : Wp) (k : Nat) (F : Fn) : Sp := fun vs H Q E => vs.length = k ∧ ∃ tp G as τ, SB W G H ∧ Paired (ArgR W tp G) vs as ∧ TapeO W G H tp τ ∧ FnPost W tp G H Q E (F as τ)
def fixT (τ τ' : TS') : TS' := if τ.isNone then none else τ'
def startP (n : Nat) (as : List PV) : PEnv := as.map some ++ List.replicate (n - as.length) none
def bodyF (n : Nat) (δ : DS) : Fn := fun as τ => match δ (startP n as) τ with
  | .ok (.rt d) τ' => .ok d (fixT τ τ')
  | .ok (.nx _) τ' => .ok .non (fixT τ τ')
  | .ok (.xc x _) τ' => .ex x (fixT τ τ')
  | _ => .no
theorem Paired.len {α β : Type} {F : α → β → Prop} : ∀ {xs : List α} {ys : List β}, Paired F xs ys → xs.length = ys.length
  | _, _, .nil => rfl
  | _, _, .cons _ t => congrArg Nat.succ (Paired.len t)
section
variable {W : Wp} {tp : Option Addr} {G G' : GH} {H H' : Hp} {τ τ' : TS'}
theorem arg_slot {v : V} {p : PV} (h : ArgR W tp G v p) : SlotR W tp G H (some v) (some p) := by
  cases p with
  | fr d => exact h
  | ow c => exact h.elim
  | tape => exact h
  | scr ns => exact h
  | fn x => exact h
  | thk => exact h.elim
theorem start_env {N : List Str} {vs : List V} {as : List PV} (s : SB W G H) (a : Paired (ArgR W tp G) vs as) (t : TapeO W G H tp τ) : EnvS W tp G H tp G H (L2.start N vs) (startP N.length as) τ := by
  have hnoow : ∀ (j : Nat) (c : OC), (startP N.length as)[j]? ≠ some (some (PV.ow c)) := by
    intro j c h
    unfold startP at h
    have hm := List.mem_of_getElem? h
    rcases List.mem_append.mp hm with q | q
    · obtain ⟨p, hp, e⟩ := List.mem_map.mp q
      cases e
      clear h hm q
      induction a with
      | nil => cases hp
      | cons h t ih =>
        rcases List.mem_cons.mp hp with z | z
        · subst z; exact h
        · exact ih z
    · have := List.eq_of_mem_replicate q
      cases this
  refine ⟨⟨s, ?_, fun i j a b c c' F F' h => (hnoow i c h).elim, t⟩, Ext.refl, fun j c b F h => (hnoow j c h).elim, .inl rfl⟩
  unfold L2.start startP
  rw [Paired.len a]
  have h1 : Paired (SlotR W tp G H) (vs.map some) (as.map some) := by
    clear hnoow
    induction a with
    | nil => exact .nil
    | cons h t ih => exact .cons (arg_slot h) ih
  have h2 : ∀ n, Paired (SlotR W tp G H) (List.replicate n none) (List.replicate n none) := by
    intro n
    induction n with
    | zero => exact .nil
    | succ n ih => exact .cons trivial ih
  have h3 : ∀ {xs xs' : List (Option V)} {ys ys' : List (Option PV)}, Paired (SlotR W tp G H) xs ys → Paired (SlotR W tp G H) xs' ys' → Paired (SlotR W tp G H) (xs ++ xs') (ys ++ ys') := by
    intro xs xs' ys ys' a b
    induction a with
    | nil => exact b
    | cons h t ih => exact .cons h ih
  exact h3 h1 (h2 _)
theorem fix_tape {tp' : Option Addr} (h : TapeO W G H tp τ) (h' : TapeO W G' H' tp' τ') (e : tp' = tp ∨ tp = none) : TapeO W G' H' tp (fixT τ τ') := by
  unfold fixT
  cases τ with
  | none =>
    cases tp with
    | none => trivial
    | some a => exact h.elim
  | some t =>
    rcases e with rfl | rfl
    · exact h'
    · exact h.elim
/-- a def's body keeps the promise -/
theorem body_ok {N : List Str} {k : Nat} {t : L2.TS} {δ : DS} {vs : List V} {Q : VK} {E : XK} (ht : DnS W (fun _ => E) t δ) (h : spP W k (bodyF N.length δ) vs H Q E) : t { nx := fun _ H' => Q .non H', rt := Q } (L2.start N vs) H := by
  obtain ⟨_, tp, G, as, τ, s, a, tt, h⟩ := h
  refine ht _ _ _ _ _ _ _ _ _ _ (start_env (N := N) s a tt) ?_
  unfold bodyF at h
  revert h
  match δ (startP N.length as) τ with
  | .ok (.rt d) τ' => exact fun h v tp' G' H' e s' t' q r => h v G' H' e s' (fix_tape tt t' q) r
  | .ok (.nx ρ) τ' => exact fun h tp' G' H' σ' s' E' => h .non G' H' E'.e E'.v.g (fix_tape tt E'.v.t (E'.t.imp id fun z => z.1)) .non
  | .ok (.xc x ρ) τ' => exact fun h d tp' G' H' σ' s' E' hx => h d G' H' E'.e E'.v.g (fix_tape tt E'.v.t (E'.t.imp id fun z => z.1)) hx
  | .ok (.bk ρ) τ' => exact fun h => h.elim
  | .ok (.ro ρ) τ' => exact fun h => h.elim
  | .ok (.ct ρ) τ' => exact fun h => h.elim
  | .ex x τ' => exact fun h => h.elim
  | .no => exact fun h => h.elim
def dpNil : DPs := fun _ τ => .ok [] τ
def dpCons (a : DP) (r : DPs) : DPs := fun ρ τ => (a ρ τ).bind fun x τ1 => (r ρ τ1).bind fun xs τ2 => .ok (x :: xs) τ2
def dpE (a : DE) : DP := fun ρ τ => (a ρ τ).bind fun x τ1 => .ok (.fr x) τ1
def dpT (i : Nat) : DP := fun ρ τ => match ρ[i]? with
  | some (some .tape) => .ok .tape τ
  | some (some (.scr ns)) => .ok (.scr ns) τ
  | _ => .no
variable {Wx : L2.St → XK} {ta : TE} {tr : TA} {δa : DE} {δp : DP} {δr : DPs}
theorem dp_e (ha : Dn W Wx ta δa) : DnP W Wx ta (dpE δa) := fun tp G H σ ρ τ Q E P =>
  ha _ _ _ _ _ _ _ E (P.bind fun a τ1 x G1 H1 e1 E1 r1 P1 => P1 x G1 H1 Ext.refl E1 r1)
theorem dp_t {i : Nat} : DnP W Wx (tVar i) (dpT i) := fun tp G H σ ρ τ Q E P => by
  unfold dpT at P
  split at P
  · rename_i h
    obtain ⟨x, h1, h2⟩ := Paired.getL E.s h
    cases x with
    | none => exact h2.elim
    | some v => exact ⟨v, h1, P v G H Ext.refl E h2⟩
  · rename_i ns h
    obtain ⟨x, h1, h2⟩ := Paired.getL E.s h
    cases x with
    | none => exact h2.elim
    | some v => exact ⟨v, h1, P v G H Ext.refl E h2⟩
  · exact P.elim
theorem dps_nil : DnPs W Wx tNil dpNil := fun tp G H σ ρ τ Q E P => P [] G H Ext.refl E .nil
theorem ArgR.mono {v : V} {p : PV} (h : ArgR W tp G v p) (s : GS G G') : ArgR W tp G' v p := by
  cases p with
  | fr d => exact Rp.mono s h
  | ow c => exact h
  | tape => exact h
  | scr ns => obtain ⟨a, r, q⟩ := h; exact ⟨a, r, s.seq q⟩
  | fn x => exact h
  | thk => exact h
theorem args_mono {vs : List V} {ps : List PV} (h : Paired (ArgR W tp G) vs ps) (s : GS G G') : Paired (ArgR W tp G') vs ps := by
  induction h with
  | nil => exact .nil
  | cons h t ih => exact .cons (h.mono s) ih
theorem dps_cons (ha : DnP W Wx ta δp) (hr : DnPs W Wx tr δr) : DnPs W Wx (tCons ta tr) (dpCons δp δr) := fun tp G H σ ρ τ Q E P =>
  ha _ _ _ _ _ _ _ E (P.bind fun a τ1 x G1 H1 e1 E1 r1 P1 => hr _ _ _ _ _ _ _ E1 (P1.bind fun b τ2 y G2 H2 e2 E2 r2 P2 => P2 _ G2 H2 Ext.refl E2 (.cons (r1.mono e2.g) r2)))
theorem paired_app {α β : Type} {F : α → β → Prop} {xs xs' : List α} {ys ys' : List β} (a : Paired F xs ys) (b : Paired F xs' ys') : Paired F (xs ++ xs') (ys ++ ys') := by
  induction a with
  | nil => exact b
  | cons h t ih => exact .cons h ih
/-- f(x, ..), what it raises leaves -/
def dCallP (k : Nat) (F : Fn) (dv : List PV) (a : DPs) : DE := fun ρ τ => (a ρ τ).bind fun as τ1 => if as.length + dv.length = k then F (as ++ dv) τ1 else .no
def dCallN (k : Nat) (F : Fn) (dv : List PV) (a : DPs) : DE := fun ρ τ => (a ρ τ).bind fun as τ1 => if as.length + dv.length = k then (F (as ++ dv) τ1).nox else .no
theorem FnPost.of {Q : VK} {σ : L2.St} {ρ : PEnv} {r : R DD} (E1 : EnvV W tp G H σ ρ τ) (P : Pg W Wx (rE W) tp σ ρ G H Q r) : FnPost W tp G H Q (Wx σ) r := by
  cases r with
  | ok d τ' => exact fun v G' H' e s t r => P v G' H' e (E1.ext e s t) r
  | ex x τ' => exact fun d G' H' e s t hx => P d G' H' e (E1.ext e s t) hx
  | no => exact P
theorem dn_callN {k : Nat} {F : Fn} {dvs : List V} {dv : List PV} (hd : ∀ tp G, Paired (ArgR W tp G) dvs dv) (ha : DnPs W Wx tr δr) : Dn W Wx (tCallE (spP W k F) dvs W0 tr) (dCallN k F dv δr) := fun tp G H σ ρ τ Q E P =>
  ha _ _ _ _ _ _ _ E (P.bind fun as τ1 vs G1 H1 e1 E1 r1 P1 => by
    by_cases h : as.length + dv.length = k
    · rw [if_pos h] at P1
      refine ⟨by rw [List.length_append, Paired.len r1, Paired.len (hd tp G1)]; exact h, tp, G1, _, τ1, E1.g, paired_app r1 (hd tp G1), E1.t, ?_⟩
      revert P1
      cases F (as ++ dv) τ1 with
      | ok d τ' => exact fun P1 v G' H' e s t r => P1 v G' H' e (E1.ext e s t) r
      | ex x τ' => exact fun P1 => P1.elim
      | no => exact fun P1 => P1.elim
    · rw [if_neg h] at P1
      exact P1.elim)
/-- f(.., k=x ..) -/
def dCallKP (k n m : Nat) (F : Fn) (g : List PV → List PV → List PV) (a b : DPs) : DE := fun ρ τ => (a ρ τ).bind fun as τ1 => (b ρ τ1).bind fun bs τ2 => if as.length = n ∧ bs.length = m ∧ (g as bs).length = k then F (g as bs) τ2 else .no
def dCallKN (k n m : Nat) (F : Fn) (g : List PV → List PV → List PV) (a b : DPs) : DE := fun ρ τ => (a ρ τ).bind fun as τ1 => (b ρ τ1).bind fun bs τ2 => if as.length = n ∧ bs.length = m ∧ (g as bs).length = k then (F (g as bs) τ2).nox else .no
end
end Np
set_option Elab.async false
set_option linter.all false
set_option maxRecDepth 100000
set_option maxHeartbeats 4000000
namespace Np
open PySem PySem.Spec PyProof.Rows L2
def tkL : Tau → Addr → HO := fun τ c => .lst [.ref c, .int τ.at', .int τ.left]
def tauAt (t : Tau) : Int → Option DD
  | 0 => some (.lst (t.cells.map DD.int))
  | 1 => some (.int t.at')
  | 2 => some (.int t.left)
  | _ => none
def tauPut (t : Tau) : Int → Int → Option Tau
  | 1, n => some { t with at' := n }
  | 2, n => some { t with left := n }
  | _, _ => none
def dTp (i : Nat) (k : Int) : DE := fun ρ τ => match ρ[i]?, τ with
  | some (some .tape), some t => R.of (some t) (tauAt t k)
  | _, _ => .no
def dTpPut (i : Nat) (k : Int) (e : DE) : DS := fun ρ τ => stE (e ρ τ) ρ fun d τ1 => match ρ[i]?, τ1, d with
  | some (some .tape), some t, .int n => match tauPut t k n with
    | some t' => .ok (.nx ρ) (some t')
    | none => .no
  | _, _, _ => .no
section
variable {W : Wp} {Wx : L2.St → XK} {tp0 tp tp' : Option Addr} {G0 G G' : GH} {H0 H H' : Hp} {σ : L2.St} {ρ : PEnv} {τ τ' : TS'} {D : Ends} {te : TE} {δe : DE}
theorem EnvV.getT {i : Nat} {t : Tau} (E : EnvV W tp G H σ ρ (some t)) (hi : ρ[i]? = some (some PV.tape)) : ∃ a c, tp = some a ∧ σ[i]? = some (some (V.ref a)) ∧ G c = some (.lst (t.cells.map V.int)) ∧ H a = some (W.tk t c) ∧ G a = none := by
  obtain ⟨v, h1, h2⟩ := Paired.getL E.s hi
  cases v with
  | none => exact h2.elim
  | some v =>
    obtain ⟨a, rfl, rfl⟩ := h2
    have t : TapeR W G H a t := E.t
    obtain ⟨c, hc, h⟩ := t.c
    exact ⟨a, c, rfl, h1, hc, h, t.g⟩
/-- a cell that may change, changed -/
theorem EnvV.mutM {a p : Addr} {o : HO} {τ : TS'} {t' : Tau} (E : EnvV W (some a) G H σ ρ τ) (hp : p = a ∨ (p ∈ G.ads ∧ G.hp p = none)) (t : TapeR W G (upd H p o) a t') (np : NT H p) : EnvV W (some a) G (upd H p o) σ ρ (some t') := by
  have g : G.hp p = none := by
    rcases hp with rfl | hp
    · exact t.g
    · exact hp.2
  have nm : ∀ {F : List Addr}, (∀ q ∈ F, G.hp q = none ∧ NoM (some a) G q) → ∀ q ∈ F, q ≠ p := fun gn q hq z => by
    rcases hp with h | h
    · exact ((gn q hq).2 a rfl).1 (by rw [z, h])
    · exact ((gn q hq).2 a rfl).2 (by rw [z]; exact h.1)
  have bk : ∀ {i : Nat} {b : Addr} {d : OC} {F : List Addr}, ρ[i]? = some (some (PV.ow d)) → σ[i]? = some (some (V.ref b)) → OwR W G (upd H p o) b d F → OwR W G H b d F := fun {i b d F} h1 h2 w => by
    obtain ⟨F1, w1, gn⟩ := E.own h1 h2
    have w2 : OwR W G (upd H p o) b d F1 := w1.keep (GS.refl _) fun q hq o h => by rw [upd_ne (nm gn q hq)]; exact h
    rw [w.uniq w2]
    exact w1
  refine ⟨E.g.put g np, Paired.mapI E.s fun j v q hv hq h => ?_, fun i j b1 b2 c1 c2 F1 F2 h1 h2 h3 h4 w1 w2 => E.d i j b1 b2 c1 c2 F1 F2 h1 h2 h3 h4 (bk h1 h3 w1) (bk h2 h4 w2), t⟩
  match v, q, h with
  | _, none, _ => cases v <;> trivial
  | some v, some (.fr d), h => exact h
  | some v, some (.ow c), ⟨b, F, r, w, gn⟩ => exact ⟨b, F, r, w.keep (GS.refl _) fun q hq o h => by rw [upd_ne (nm gn q hq)]; exact h, gn⟩
  | some v, some .tape, h => exact h
  | some v, some (.scr ns), h => exact h
  | some v, some (.fn x), h => exact h
  | some v, some .thk, ⟨f, c, q, g, a1, b, s, n, h⟩ => exact ⟨f, c, q, g, a1, b, s, n, by rw [upd_ne (code_ne h np)]; exact h⟩
theorem EnvS.mutM {a p : Addr} {o : HO} {τ : TS'} {t' : Tau} (E : EnvS W tp0 G0 H0 (some a) G H σ ρ τ) (hp : p = a ∨ (p ∈ G.ads ∧ G.hp p = none)) (t : TapeR W G (upd H p o) a t') (np : NT H p) : EnvS W tp0 G0 H0 (some a) G (upd H p o) σ ρ (some t') := by
  have t0 : some a = tp0 := by
    rcases E.t with h | ⟨_, h⟩
    · exact h
    · exact h.elim
  refine ⟨E.v.mutM hp t np, ⟨E.e.g, fun q u n tb h => ?_, E.e.f, fun q hq => ?_, E.e.w, E.e.z⟩, fun j c1 b F h1 h2 w1 => ?_, E.t⟩
  · rw [upd_ne (fun z => ?_)]
    · exact E.e.h q u n tb h
    · rcases hp with q1 | q1
      · exact (n a t0.symm).1 (by rw [z, q1])
      · rcases E.e.w p q1.1 with q2 | q2
        · exact (n a t0.symm).2 (by rw [z]; exact q2)
        · rw [z, q2] at h; cases h
  · by_cases z : q = p
    · rw [z, upd_same]; simp
    · rw [upd_ne z]; exact E.e.x q hq
  · obtain ⟨F1, w2, gn⟩ := E.v.own h1 h2
    have w3 : OwR W G (upd H p o) b c1 F1 := w2.keep (GS.refl _) fun q hq o h => by
      rw [upd_ne (fun z => ?_)]
      · exact h
      · rcases hp with q1 | q1
        · exact ((gn q hq).2 a rfl).1 (by rw [z, q1])
        · exact ((gn q hq).2 a rfl).2 (by rw [z]; exact q1.1)
    rw [w1.uniq w3]
    exact E.o j c1 b F1 h1 h2 w2
theorem StR.put {a p : Addr} {o : HO} {st : List Nd} (t : StR W G H a st) (n : p ∉ G.ads) : StR W G (upd H p o) a st :=
  t.keep (GS.refl _) rfl (fun _ _ z => z) fun b hb u h => by rw [upd_ne (fun z => n (by rw [← z]; exact hb))]; exact h
theorem EnvS.putT {a c : Addr} {t t' : Tau} (E : EnvS W tp0 G0 H0 (some a) G H σ ρ (some t)) (hc : G c = some (.lst (t'.cells.map V.int))) (hst : t'.st = t.st) (hn : (W.tk t' c).nt = true) : EnvS W tp0 G0 H0 (some a) G (upd H a (W.tk t' c)) σ ρ (some t') := by
  have t0 : TapeR W G H a t := E.v.t
  exact E.mutM (.inl rfl) ⟨t0.g, ⟨c, hc, upd_same⟩, ⟨_, upd_same, hn⟩, by rw [hst]; exact t0.s.put t0.s.t⟩ t0.n
theorem dn_tp {i : Nat} {k : Int} (hW : W.tk = tkL) : Dn W Wx (tOp (rIxL W.K) (tVar i) (tC (.int k))) (dTp i k) := fun tp G H σ ρ τ Q E P => by
  unfold dTp at P
  split at P
  · rename_i t hi
    obtain ⟨a, c, rfl, ha, hc, h, g⟩ := E.getT hi
    rw [hW] at h
    obtain ⟨d, hd, P1⟩ := P.of
    refine ⟨_, ha, a, [.ref c, .int t.at', .int t.left], k, ?_⟩
    unfold tauAt at hd
    split at hd
    · cases hd
      exact ⟨.ref c, rfl, rfl, SqL.of h, rfl, P1 _ G H Ext.refl E (.lst hc (RpA.ints _))⟩
    · cases hd
      exact ⟨.int t.at', rfl, rfl, SqL.of h, rfl, P1 _ G H Ext.refl E (.int _)⟩
    · cases hd
      exact ⟨.int t.left, rfl, rfl, SqL.of h, rfl, P1 _ G H Ext.refl E (.int _)⟩
    · cases hd
  · exact P.elim
theorem ds_tpPut {i : Nat} {k : Int} (hW : W.tk = tkL) (he : Dn W Wx te δe) : DnS W Wx (tAsg te (L2.gSub (tVar i) (tC (.int k)) rSetL)) (dTpPut i k δe) := fun tp0 G0 H0 tp G H σ ρ τ D E P =>
  he _ _ _ _ _ _ _ E.v (P.bind E fun d τ1 y G1 H1 E1 e1 r1 P1 => by
    split at P1
    · rename_i t n hi
      obtain ⟨a, c, rfl, ha, hc, h, g⟩ := E1.v.getT hi
      rw [hW] at h
      split at P1
      · rename_i t' ht
        unfold tauPut at ht
        split at ht
        · cases ht
          refine ⟨_, ha, a, _, 1, 1, rfl, rfl, h, rfl, ?_⟩
          have := P1 (some a) G1 _ σ (GS.refl _) (E1.putT (t' := { t with at' := n }) (c := c) hc rfl (by rw [hW]; rfl))
          rw [hW] at this
          rw [r1.int_of]
          exact this
        · cases ht
          refine ⟨_, ha, a, _, 2, 2, rfl, rfl, h, rfl, ?_⟩
          have := P1 (some a) G1 _ σ (GS.refl _) (E1.putT (t' := { t with left := n }) (c := c) hc rfl (by rw [hW]; rfl))
          rw [hW] at this
          rw [r1.int_of]
          exact this
        · cases ht
      · exact P1.elim
    · exact P1.elim)
def cells0 (ns : List Int) : List Int := cutL ns none (some 63)
theorem cells0_eq (ns : List Int) : cutV (ns.map V.int) none (some 63) = (cells0 ns).map V.int := by
  unfold cutV cells0 cutL
  rw [List.length_map, ← List.map_drop, ← List.map_take]
def spTape (W : Wp) : Sp := fun vs H Q _ => ∃ (a : Addr) (ns : List Int), vs = [.ref a] ∧ SqL W.K H a (ns.map V.int) ∧ ∀ c p H', Same H H' → H c = none → H p = none → c ≠ p → H' c = some (.lst ((cells0 ns).map V.int)) → H' p = some (W.tk ⟨cells0 ns, 0, 0, []⟩ c) → Q (.ref p) H'
def dMkT (i j : Nat) : DS := fun ρ τ => match ρ[j]?, τ with
  | some (some (.scr ns)), none => .ok (.nx (ρ.set i (some .tape))) (some ⟨cells0 ns, 0, 0, []⟩)
  | _, _ => .no
/-- the heap but for the tables -/
def noTab (H : Hp) : GH := ⟨fun q => match H q with
  | some o => if o.tb = true then none else some o
  | none => none, []⟩
theorem noTab_same (H : Hp) : Same (noTab H).hp H := fun q o h => by
  unfold noTab at h
  dsimp only at h
  split at h
  · split at h
    · cases h
    · rename_i e _; rw [e]; exact h
  · cases h
theorem noTab_at {H : Hp} {q : Addr} {o : HO} (h : H q = some o) (t : o.tb = false) : (noTab H).hp q = some o := by
  unfold noTab
  dsimp only
  rw [h]
  simp [t]
theorem noTab_sb {W : Wp} {H : Hp} (t : LamX.Tabs W.T H) : SB W (noTab H) H := ⟨noTab_same H, t, fun p hp => by
  obtain ⟨ps, e, _⟩ := t p hp
  unfold noTab
  dsimp only
  rw [e]
  rfl⟩
theorem noTab_seq {K : PySem.W.Frag} {H : Hp} {a : Addr} {xs : List V} (h : SqL K H a xs) : SqL K (noTab H).hp a xs := by
  rcases h with (h | ⟨o, h⟩) | h
  · exact .inl (.inl (noTab_at h rfl))
  · exact .inl (.inr ⟨o, noTab_at h rfl⟩)
  · exact .inr h
theorem law_ok {N : List Str} {t : L2.TS} {i : Nat} {E' : L2.St → XK} {δ : DS} {vs : List V} {Q : VK} {E : XK} (hnt : ∀ τ c, (W.tk τ c).nt = true) (hl : ∀ ns : List Int, ns.length ≤ 63 → ∃ τ, bodyF N.length (dSeq (dMkT i 0) δ) [.scr ns] none = .ok (.bl true) τ) (ht : DnS W (fun _ => E) t δ) (hT : LamX.Tabs W.T H) (h : spL W.K vs H Q E) :
    tSeq (tAsg (tCallE (spTape W) [] E' (tCons (tVar 0) tNil)) (gName i)) t { nx := fun _ H' => Q .non H', rt := Q } (L2.start N vs) H := by
  obtain ⟨a, ns, rfl, hs, hn, k⟩ := h
  obtain ⟨τ, e⟩ := hl ns hn
  have s0 := noTab_sb (W := W) hT
  have E0 := (start_env (N := N) (vs := [.ref a]) (as := [.scr ns]) (tp := none) (τ := none) s0 (.cons ⟨a, rfl, noTab_seq hs⟩ .nil) trivial).v
  have h0 : (startP N.length [.scr ns])[0]? = some (some (.scr ns)) := rfl
  have h1 : (L2.start N [V.ref a])[0]? = some (some (V.ref a)) := rfl
  refine ⟨_, h1, a, ns, rfl, hs, fun c p H' s hc hp ne h3 h4 => ?_⟩
  have gc := s0.free hc
  have gp := s0.free hp
  generalize hG : noTab H = G at *
  have hGa : G.ads = [] := by rw [← hG]; rfl
  have s1 : GS G (G.upd c (.lst ((cells0 ns).map V.int))) := GS.new gc
  have E1 : EnvV W (some p) (G.upd c (.lst ((cells0 ns).map V.int))) H' (L2.start N [V.ref a]) (startP N.length [.scr ns]) (some ⟨cells0 ns, 0, 0, []⟩) := by
    refine ⟨(s0.trans s).frz h3 rfl, Paired.mapI E0.s fun k v q hv hq h => ?_, fun i j b1 b2 c1 c2 F1 F2 h1 h2 h3 h4 w1 w2 => E0.d i j b1 b2 c1 c2 F1 F2 h1 h2 h3 h4 (E0.back s1 (fun q o _ h => s q o h) h1 h3 w1) (E0.back s1 (fun q o _ h => s q o h) h2 h4 w2), ?_, ⟨c, upd_same, h4⟩, ⟨_, h4, hnt _ _⟩, ⟨by rw [show (G.upd c (.lst ((cells0 ns).map V.int))).ads = [] from hGa]; rfl, by rw [show (G.upd c (.lst ((cells0 ns).map V.int))).ads = [] from hGa]; exact List.nodup_nil, by rw [show (G.upd c (.lst ((cells0 ns).map V.int))).ads = [] from hGa]; simp, fun k nd b h => by simp at h, fun k nd b h => by simp at h⟩⟩
    · match v, q, h with
      | _, none, _ => cases v <;> trivial
      | some v, some (.fr d), h => exact Rp.mono s1 h
      | some v, some (.ow o), ⟨b, F, r, w, gn⟩ =>
        refine ⟨b, F, r, w.keep s1 fun q _ o h => s q o h, fun q hq => ⟨by show upd G.hp c _ q = none; rw [upd_ne (fun z => w.at q hq (by rw [z]; exact hc))]; exact (gn q hq).1, fun z hz => ?_⟩⟩
        cases hz
        exact ⟨fun z => w.at q hq (by rw [z]; exact hp), by show q ∉ G.ads; rw [hGa]; simp⟩
      | some v, some .tape, ⟨b, z, _⟩ => exact nomatch z
      | some v, some (.scr ns), ⟨b, r, q⟩ => exact ⟨b, r, s1.seq q⟩
      | some v, some (.fn x), h => exact h
      | some v, some .thk, ⟨f, c1, q, g, a1, b, sg, n, h⟩ => exact ⟨f, c1, q, g, a1, b, sg.trans s1, fun z hz => by cases hz; exact ⟨fun z => (by rw [z, hp] at h; cases h), (by show c1 ∉ G.ads; rw [hGa]; simp)⟩, s _ _ h⟩
    · show upd G.hp c _ p = none
      rw [upd_ne (fun z => ne z.symm)]
      exact gp
  have E2 := E1.setS (i := i) (v := some (.ref p)) (p := some .tape) ⟨p, rfl, rfl⟩ fun _ z => by cases z
  refine ht (some p) _ H' (some p) _ H' _ _ _ _ ⟨E2, Ext.refl, fun j c b F h => ?_, .inl rfl⟩ ?_
  · intro h2 w
    obtain ⟨x, y⟩ := Sub.set (σ := L2.start N [V.ref a]) (ρ := startP N.length [.scr ns]) (i := i) (v := some (V.ref p)) (p := some PV.tape) (fun _ z => by cases z) j c b h h2
    exfalso
    have hm := List.mem_of_getElem? x
    unfold startP at hm
    rcases List.mem_append.mp hm with q | q
    · simp at q
    · have := List.eq_of_mem_replicate q
      cases this
  · unfold bodyF dSeq dMkT at e
    rw [h0] at e
    dsimp only at e
    revert e
    match δ ((startP N.length [.scr ns]).set i (some .tape)) (some ⟨cells0 ns, 0, 0, []⟩) with
    | .ok (.rt d) τ' => exact fun e v tp' G' H' _ _ _ _ r => by cases e; cases r; exact k H'
    | .ok (.nx ρ) τ' => exact fun e => by cases e
    | .ok (.xc x ρ) τ' => exact fun e => by cases e
    | .ok (.bk ρ) τ' => exact fun e => by cases e
    | .ok (.ro ρ) τ' => exact fun e => by cases e
    | .ok (.ct ρ) τ' => exact fun e => by cases e
    | .ex x τ' => exact fun e => by cases e
    | .no => exact fun e => by cases e
def dRaise (cls : Str) (names : List Str) (a : DA) : DS := fun ρ τ => stE (a ρ τ) ρ fun ds τ1 => if ds.length = names.length ∧ ds.length ≤ 1000 then .ok (.xc ⟨cls, (names.zip ds).reverse⟩ ρ) τ1 else .no
theorem RpF.append : ∀ {v v' : List (Str × V)} {d d' : List (Str × DD)}, RpF W.K W.cm G v d → RpF W.K W.cm G v' d' → RpF W.K W.cm G (v ++ v') (d ++ d')
  | _, _, _, _, .nil, s => s
  | _, _, _, _, .cons h r, s => .cons h (RpF.append r s)
theorem RpF.reverse : ∀ {v : List (Str × V)} {d : List (Str × DD)}, RpF W.K W.cm G v d → RpF W.K W.cm G v.reverse d.reverse
  | _, _, .nil => .nil
  | _, _, .cons h r => by
    rw [List.reverse_cons, List.reverse_cons]
    exact (RpF.reverse r).append (.cons h .nil)
theorem RpF.zip : ∀ (ns : List Str) {v : List V} {d : List DD}, RpA W.K W.cm G v d → RpF W.K W.cm G (ns.zip v) (ns.zip d)
  | [], _, _, _ => .nil
  | _ :: _, _, _, .nil => .nil
  | n :: ns, _, _, .cons h r => .cons h (RpF.zip ns r)
theorem ds_raise {ta : TA} {δa : DA} {cls : Str} {C : Addr} {names : List Str} (hC : W.cm cls = C) (ha : DnA W Wx ta δa) : DnS W Wx (fun _ σ H => tMkO C (spInit C names) [] ta σ H fun cls d H' => Wx σ cls d H') (dRaise cls names δa) := fun tp0 G0 H0 tp G H σ ρ τ D E P =>
  ha _ _ _ _ _ _ _ E.v (P.bind E fun ds τ1 vs G1 H1 E1 e1 r1 P1 => by
    by_cases h : ds.length = names.length ∧ ds.length ≤ 1000
    · rw [if_pos h] at P1
      refine mk_tail (by rw [r1.length]; exact h.1) (by rw [r1.length]; exact h.2) fun d nd => ?_
      rw [← hC]
      exact P1 d tp (G1.upd d (.xd (names.zip vs).reverse)) _ σ (GS.new (E1.v.g.free nd)) (E1.step (Ext.new nd E1.v.g) (E1.v.new nd)) ⟨_, upd_same, ((RpF.zip names r1).reverse).mono (GS.new (E1.v.g.free nd))⟩
    · rw [if_neg h] at P1
      exact P1.elim)
end
end Np
set_option Elab.async false
set_option linter.all false
set_option maxRecDepth 100000
set_option maxHeartbeats 4000000
namespace Np
open PySem PySem.Spec PyProof.Rows L2
section
variable {W : Wp} {Wx : L2.St → XK} {tp0 tp tp' : Option Addr} {G0 G G' : GH} {H0 H H' : Hp} {σ : L2.St} {ρ : PEnv} {τ τ' : TS'} {D : Ends} {te ta tb : TE} {δe δa δb : DE} {tr : TA} {δr : DA}
def gNeg : DD → Option DD
  | .int i => some (.int (-i))
  | _ => none
theorem ud_neg : UnD W (rU fun i => .int (-i)) gNeg := by
  intro G H x a c Q s ra e k
  cases a <;> first | (cases e; done) | skip
  cases e
  exact ⟨_, ra.int_of, k _ G H ext_n s (.int _)⟩
def dListF (a : DA) : PEnv → TS' → R OC := fun ρ τ => (a ρ τ).bind fun x τ1 => match x with
  | [d] => match items? d with
    | some ds => .ok (.lst ds) τ1
    | none => .no
  | _ => .no
theorem df_list (ha : DnA W Wx tr δr) : DnF W Wx (tCB (rListK W.K) tr) (dListF δr) := fun tp G H σ ρ τ Q E P =>
  ha _ _ _ _ _ _ _ E (P.bind fun a τ1 x G1 H1 e1 E1 r1 P1 => by
    split at P1
    · rename_i d
      cases r1 with | cons r rs =>
      cases rs
      cases r <;> first | exact P1.elim | skip
      · rename_i h r
        exact ⟨_, _, rfl, .inl (SqL.of (E1.g _ _ h)), fun p n => P1 p [p] G1 _ (Ext.newH n) (E1.newH n) ⟨rfl, _, upd_same, r⟩ (fr1 n (E1.g.free n) (E1.noM n))⟩
      · rename_i h r
        exact ⟨_, _, rfl, .inr (SqT.of (E1.g _ _ h)), fun p n => P1 p [p] G1 _ (Ext.newH n) (E1.newH n) ⟨rfl, _, upd_same, r⟩ (fr1 n (E1.g.free n) (E1.noM n))⟩
      · rename_i h _ r
        exact ⟨_, _, rfl, .inr (.inl (.inr ⟨_, E1.g _ _ h⟩)), fun p n => P1 p [p] G1 _ (Ext.newH n) (E1.newH n) ⟨rfl, _, upd_same, r⟩ (fr1 n (E1.g.free n) (E1.noM n))⟩
    · exact P1.elim)
/-- an operator that makes a new list -/
def OpF (W : Wp) (r : R2) (g : DD → DD → Option DD) : Prop := ∀ (G : GH) (H : Hp) (x y : V) (a b : DD) (cs : List DD) (Q : VK), SB W G H → Rp W.K W.cm G x a → Rp W.K W.cm G y b → g a b = some (.lst cs) →
  (∀ p vs, H p = none → RpA W.K W.cm G vs cs → Q (.ref p) (upd H p (.lst vs))) → r x y H Q
def dOpF (g : DD → DD → Option DD) (a b : DE) : PEnv → TS' → R OC := fun ρ τ => (a ρ τ).bind fun x τ1 => (b ρ τ1).bind fun y τ2 => match g x y with
  | some (.lst cs) => .ok (.lst cs) τ2
  | _ => .no
theorem PgF.mono {Q Q' : VK} {r : R OC} (P : PgF W Wx tp σ ρ G H Q r) (k : ∀ p H', H p = none → Q (.ref p) H' → Q' (.ref p) H') : PgF W Wx tp σ ρ G H Q' r := by
  cases r with
  | ok c τ => exact fun p F G' H' e E w fr => k p H' (fr p w.mem).1 (P p F G' H' e E w fr)
  | ex x τ => exact P
  | no => exact P
theorem df_op {r : R2} {g : DD → DD → Option DD} (ho : OpF W r g) (ha : Dn W Wx ta δa) (hb : Dn W Wx tb δb) : DnF W Wx (tOp r ta tb) (dOpF g δa δb) := fun tp G H σ ρ τ Q E P =>
  ha _ _ _ _ _ _ _ E (P.bind fun a τ1 x G1 H1 e1 E1 r1 P1 => hb _ _ _ _ _ _ _ E1 (P1.bind fun b τ2 y G2 H2 e2 E2 r2 P2 => by
    split at P2
    · rename_i cs hg
      exact ho G2 H2 x y a b cs Q E2.g (Rp.mono e2.g r1) r2 hg fun p vs n rv => P2 p [p] G2 _ (Ext.newH n) (E2.newH n) ⟨rfl, _, upd_same, rv⟩ (fr1 n (E2.g.free n) (E2.noM n))
    · exact P2.elim))
theorem of_rep : OpF W rRep gRep := by
  intro G H x y a b cs Q s ra rb e k
  cases ra <;> first | (cases e; done) | skip
  cases rb <;> first | (cases e; done) | skip
  rename_i p xs ds h r n
  obtain ⟨hz, e2⟩ := ifs (show (if -(2 ^ 63) ≤ n ∧ n < 2 ^ 63 ∧ ds.length * n.toNat ≤ sizeLine then some (DD.lst (List.replicate n.toNat ds).flatten) else none) = _ from e)
  cases e2
  exact ⟨p, n, xs, rfl, rfl, s _ _ h, hz.1, hz.2.1, by rw [r.length]; exact hz.2.2, fun p q => k p _ q (r.rep _)⟩
/-- a new thing that no slot has yet -/
structure Held (W : Wp) (tp : Option Addr) (G : GH) (H : Hp) (σ : L2.St) (ρ : PEnv) (p : Addr) (c : OC) (F : List Addr) : Prop where
  w : OwR W G H p c F
  fr : ∀ q ∈ F, G q = none ∧ NoM tp G q
  no : ∀ q ∈ F, FreeP W G H σ ρ q
theorem Held.ext {p : Addr} {c : OC} {F : List Addr} (h : Held W tp G H σ ρ p c F) (E : EnvV W tp G H σ ρ τ) (e : Ext tp G H G' H') : Held W tp G' H' σ ρ p c F :=
  ⟨h.w.ext h.fr e, fun q hq => ⟨e.f q (h.fr q hq).2 (h.w.at q hq) (h.fr q hq).1, e.nom (h.fr q hq).2 (h.w.at q hq)⟩, fun q hq => (h.no q hq).ext E e⟩
theorem EnvS.setH {i : Nat} {p : Addr} {c : OC} {F : List Addr} (E : EnvS W tp0 G0 H0 tp G H σ ρ τ) (h : Held W tp G H σ ρ p c F) (n0 : ∀ q ∈ F, H0 q = none) : EnvS W tp0 G0 H0 tp G H (σ.set i (some (.ref p))) (ρ.set i (some (.ow c))) τ := E.setO h.w h.fr h.no n0
variable {φ ψ : PEnv → TS' → R OC}
theorem dnF_run (he : DnF W Wx te φ) (E : EnvS W tp0 G0 H0 tp G H σ ρ τ) {f : OC → TS' → R Ct} {Q : VK} (P : Ps W Wx tp0 G0 H0 G D (stE (φ ρ τ) ρ f))
    (k : ∀ c τ1 p F G1 H1, EnvS W tp0 G0 H0 tp G1 H1 σ ρ τ1 → Ext tp G H G1 H1 → Held W tp G1 H1 σ ρ p c F → (∀ q ∈ F, H q = none ∧ H0 q = none) → Ps W Wx tp0 G0 H0 G1 D (f c τ1) → Q (.ref p) H1) : te σ H Q := by
  refine he _ _ _ _ _ _ _ E.v ?_
  cases h : φ ρ τ with
  | no => rw [h] at P; exact P.elim
  | ex x τ1 => rw [h] at P; exact fun d G1 H1 e1 E1 hx => P d tp G1 H1 σ e1.g (E.step e1 E1) hx
  | ok c τ1 =>
    rw [h] at P
    exact fun p F G1 H1 e1 E1 w fr => k c τ1 p F G1 H1 (E.step e1 E1) e1 ⟨w, fun q hq => (fr q hq).2, fun q hq => (E.v.noO (fr q hq).1).ext E.v e1⟩ (fun q hq => ⟨(fr q hq).1, E.freeT (fr q hq).1⟩) (Ps.shift (r := f c τ1) P e1.g)
def dParOO (i j : Nat) (a b : PEnv → TS' → R OC) : DS := fun ρ τ => stE (a ρ τ) ρ fun x τ1 => stE (b ρ τ1) ρ fun y τ2 => .ok (.nx ((ρ.set i (some (.ow x))).set j (some (.ow y)))) τ2
def dParOF (i j : Nat) (a : PEnv → TS' → R OC) (b : DE) : DS := fun ρ τ => stE (a ρ τ) ρ fun x τ1 => stE (b ρ τ1) ρ fun y τ2 => .ok (.nx ((ρ.set i (some (.ow x))).set j (some (.fr y)))) τ2
def dParFO (i j : Nat) (a : DE) (b : PEnv → TS' → R OC) : DS := fun ρ τ => stE (a ρ τ) ρ fun x τ1 => stE (b ρ τ1) ρ fun y τ2 => .ok (.nx ((ρ.set i (some (.fr x))).set j (some (.ow y)))) τ2
theorem ds_parFO {i j : Nat} (ha : Dn W Wx ta δa) (hb : DnF W Wx tb ψ) : DnS W Wx (tPar i j (tCons ta (tCons tb tNil))) (dParFO i j δa ψ) := fun tp0 G0 H0 tp G H σ ρ τ D E P =>
  ha _ _ _ _ _ _ _ E.v (P.bind E fun d τ1 v G1 H1 E1 e1 r1 P1 => dnF_run hb E1 P1 fun c τ2 p F G2 H2 E2 e2 h2 n2 P2 => by
    refine ⟨_, _, rfl, P2 tp G2 H2 _ (GS.refl _) ((E2.setF (i := i) (r1.mono e2.g)).setH (i := j) ⟨h2.w, h2.fr, fun r hr k c' b F1 a1 a2 w => ?_⟩ fun q hq => (n2 q hq).2)⟩
    obtain ⟨x1, x2⟩ := Sub.set (σ := σ) (ρ := ρ) (i := i) (v := some v) (p := some (PV.fr d)) (fun _ z => by cases z) k c' b a1 a2
    exact h2.no r hr k c' b F1 x1 x2 w)
end
end Np
set_option Elab.async false
set_option linter.all false
set_option maxRecDepth 100000
set_option maxHeartbeats 4000000
namespace Np
open PySem PySem.Spec PyProof.Rows L2
section
variable {W : Wp} {Wx : L2.St → XK} {tp0 tp tp' : Option Addr} {G0 G G' : GH} {H0 H H' : Hp} {σ : L2.St} {ρ : PEnv} {τ τ' : TS'} {D : Ends} {te ta tb tc : TE} {δe δa δb δc : DE} {tr : TA} {δr : DA} {φ ψ : PEnv → TS' → R OC} {t : L2.TS} {δ : DS}
inductive Pk where
  | cells | at' | left
def Pk.str : Pk → Str
  | .cells => "cells"
  | .at' => "at"
  | .left => "left"
def tauGet (t : Tau) : Pk → DD
  | .cells => .lst (t.cells.map DD.int)
  | .at' => .int t.at'
  | .left => .int t.left
def tauSet (t : Tau) : Pk → Int → Option Tau
  | .cells, _ => none
  | .at', n => some { t with at' := n }
  | .left, n => some { t with left := n }
def dTd (i : Nat) (k : Pk) : DE := fun ρ τ => match ρ[i]?, τ with
  | some (some .tape), some t => .ok (tauGet t k) (some t)
  | _, _ => .no
def dTdPut (i : Nat) (k : Pk) (e : DE) : DS := fun ρ τ => stE (e ρ τ) ρ fun d τ1 => match ρ[i]?, τ1, d with
  | some (some .tape), some t, .int n => match tauSet t k n with
    | some t' => .ok (.nx ρ) (some t')
    | none => .no
  | _, _, _ => .no
def rgOk (a b : Int) : Prop := -(2 ^ 62) ≤ a ∧ a < 2 ^ 62 ∧ -(2 ^ 62) ≤ b ∧ b < 2 ^ 62 ∧ (b - a).toNat ≤ 2 ^ 24
instance (a b : Int) : Decidable (rgOk a b) := by unfold rgOk; infer_instance
theorem RpA.rg (a b : Int) : RpA W.K W.cm G (rgV a b) (rangeD a (b - a).toNat) := by
  unfold rgV rangeD
  generalize (List.range (b - a).toNat) = l
  induction l with
  | nil => exact .nil
  | cons x l ih => exact .cons (.int _) ih
def gRgL1 : DD → Option DD
  | .int b => if rgOk 0 b then some (.lst (rangeD 0 (b - 0).toNat)) else none
  | _ => none
theorem dn_listRg1 (ha : Dn W Wx ta δa) : Dn W Wx (tLstRg (tRg1 ta)) (dUn gRgL1 δa) := fun tp G H σ ρ τ Q E P =>
  ha _ _ _ _ _ _ _ E (P.bind fun a τ1 x G1 H1 e1 E1 r1 P1 => by
    obtain ⟨c, hc, P3⟩ := P1.of
    cases a <;> first | (cases hc; done) | skip
    rename_i j
    obtain ⟨hz, rfl⟩ := ifs (show (if rgOk 0 j then some (DD.lst (rangeD 0 (j - 0).toNat)) else none) = some c from hc)
    exact ⟨j, r1.int_of, hz, fun q n => P3 _ _ _ (Ext.new n E1.g) (E1.new n) (rp_newL (E1.g.free n) (RpA.rg 0 j))⟩)
def gRepr (d : DD) : Option DD := match toPy d, items? d with
  | some p, some _ => if PyData.showable p = true ∧ SeqAt.shaped p = true ∧ p.shown.length ≤ sizeLine then some (.str p.shown) else none
  | _, _ => none
theorem cd_repr : CallD W (rReprD W.K) (c1 gRepr) := by
  intro G H x a c Q s ra e k
  replace e := c1_eq e
  obtain ⟨d, rfl, e⟩ := e
  cases ra with | cons r rs =>
  cases rs
  unfold gRepr at e
  split at e
  · rename_i p l h1 h2
    obtain ⟨h, rfl⟩ := ifs e
    have dp := (r.mono s.gs).dp h1
    cases r <;> first | (cases h2; done) | (exfalso; rw [toPy] at h1 <;> first | (cases h1; done) | (intros; contradiction)) | skip
    · exact ⟨_, p, rfl, dp, h.1, h.2.1, h.2.2, k _ G H ext_n s (.str _)⟩
    · exact ⟨_, p, rfl, dp, h.1, h.2.1, h.2.2, k _ G H ext_n s (.str _)⟩
  · cases e
abbrev FnO := List PV → TS' → R OC
def FnPostO (W : Wp) (tp : Option Addr) (G : GH) (H : Hp) (Q : VK) (E : XK) : R OC → Prop
  | .ok c τ' => ∀ p F G' H', Ext tp G H G' H' → SB W G' H' → TapeO W G' H' tp τ' → OwR W G' H' p c F → (∀ q ∈ F, H q = none ∧ G' q = none ∧ NoM tp G' q) → Q (.ref p) H'
  | .ex x τ' => ∀ d G' H', Ext tp G H G' H' → SB W G' H' → TapeO W G' H' tp τ' → ExR W G' H' x d → E (.ref (W.cm x.cls)) d H'
  | .no => False
def spO (W : Wp) (k : Nat) (F : FnO) : Sp := fun vs H Q E => vs.length = k ∧ ∃ tp G as τ, SB W G H ∧ Paired (ArgR W tp G) vs as ∧ TapeO W G H tp τ ∧ FnPostO W tp G H Q E (F as τ)
def bodyO (n : Nat) (δ : DS) : FnO := fun as τ => match δ (startP n as) τ with
  | .ok (.ro c) τ' => .ok c (fixT τ τ')
  | .ok (.xc x _) τ' => .ex x (fixT τ τ')
  | _ => .no
theorem body_okO {N : List Str} {k : Nat} {vs : List V} {Q : VK} {E : XK} (ht : DnS W (fun _ => E) t δ) (h : spO W k (bodyO N.length δ) vs H Q E) : t { nx := fun _ H' => Q .non H', rt := Q } (L2.start N vs) H := by
  obtain ⟨_, tp, G, as, τ, s, a, tt, h⟩ := h
  refine ht _ _ _ _ _ _ _ _ _ _ (start_env (N := N) s a tt) ?_
  unfold bodyO at h
  revert h
  match δ (startP N.length as) τ with
  | .ok (.ro c) τ' => exact fun h p F tp' G' H' e s' t' q w fr => h p F G' H' e s' (fix_tape tt t' q) w fun r hr => ⟨(fr r hr).1, (fr r hr).2.1, by rcases q with q | q; exact q ▸ (fr r hr).2.2; rw [q]; exact NoM.none⟩
  | .ok (.xc x ρ) τ' => exact fun h d tp' G' H' σ' s' E' hx => h d G' H' E'.e E'.v.g (fix_tape tt E'.v.t (E'.t.imp id fun z => z.1)) hx
  | .ok (.nx ρ) τ' => exact fun h => h.elim
  | .ok (.rt d) τ' => exact fun h => h.elim
  | .ok (.bk ρ) τ' => exact fun h => h.elim
  | .ok (.ct ρ) τ' => exact fun h => h.elim
  | .ex x τ' => exact fun h => h.elim
  | .no => exact fun h => h.elim
def dRetF (φ : PEnv → TS' → R OC) : DS := fun ρ τ => stE (φ ρ τ) ρ fun c τ1 => .ok (.ro c) τ1
theorem ds_retF (he : DnF W Wx te φ) : DnS W Wx (tRet te) (dRetF φ) := fun tp0 G0 H0 tp G H σ ρ τ D E P =>
  dnF_run he E P fun c τ1 p F G1 H1 E1 e1 h n P1 => P1 p F tp G1 H1 E1.e E1.v.g E1.v.t (E1.t.imp id fun z => z.1) h.w fun q hq => ⟨(n q hq).2, h.fr q hq⟩
variable {Tr : TA} {δp δk : DPs} {k : Nat} {F : FnO} {dvs : List V} {dv : List PV}
def dCallOP (k : Nat) (F : FnO) (dv : List PV) (a : DPs) : PEnv → TS' → R OC := fun ρ τ => (a ρ τ).bind fun as τ1 => if as.length + dv.length = k then F (as ++ dv) τ1 else .no
def dCallON (k : Nat) (F : FnO) (dv : List PV) (a : DPs) : PEnv → TS' → R OC := fun ρ τ => (a ρ τ).bind fun as τ1 => if as.length + dv.length = k then (F (as ++ dv) τ1).nox else .no
theorem FnPostO.of {Q : VK} {r : R OC} (E1 : EnvV W tp G H σ ρ τ) (P : PgF W Wx tp σ ρ G H Q r) : FnPostO W tp G H Q (Wx σ) r := by
  cases r with
  | ok c τ' => exact fun p F G' H' e s t w fr => P p F G' H' e (E1.ext e s t) w fr
  | ex x τ' => exact fun d G' H' e s t hx => P d G' H' e (E1.ext e s t) hx
  | no => exact P
def dCallKON (k n m : Nat) (F : FnO) (g : List PV → List PV → List PV) (a b : DPs) : PEnv → TS' → R OC := fun ρ τ => (a ρ τ).bind fun as τ1 => (b ρ τ1).bind fun bs τ2 => if as.length = n ∧ bs.length = m ∧ (g as bs).length = k then (F (g as bs) τ2).nox else .no
/-- a new thing that stays from now on -/
def dFz (φ : PEnv → TS' → R OC) : DE := fun ρ τ => (φ ρ τ).bind fun c τ1 => .ok (ocD c) τ1
theorem dn_fz (he : DnF W Wx te φ) : Dn W Wx te (dFz φ) := fun tp G H σ ρ τ Q E P => by
  refine he _ _ _ _ _ _ _ E ?_
  unfold dFz at P
  revert P
  cases φ ρ τ with
  | ok c τ1 =>
    intro P p F G1 H1 e1 E1 w fr
    have s1 : GS G1 (upF G1 H1 F) := upF_same fun q hq => (fr q hq).2.1
    refine P (.ref p) (upF G1 H1 F) H1 ⟨e1.g.trans s1, e1.h, fun q nq hq hg => ?_, e1.x, e1.w, e1.z⟩ (E1.freezeF (fun q hq => (fr q hq).2) w.nt fun q hq => (E.noO (fr q hq).1).ext E e1) (w.rp s1 upF_in)
    rw [upF_out (fun z => hq (fr q z).1)]
    exact e1.f q nq hq hg
  | ex x τ1 => exact fun P => P
  | no => exact fun P => P
def dPar3 (i j l : Nat) (a : DA) : DS := fun ρ τ => stE (a ρ τ) ρ fun ds τ1 => match ds with
  | [d, e, f] => .ok (.nx (((ρ.set i (some (.fr d))).set j (some (.fr e))).set l (some (.fr f)))) τ1
  | _ => .no
def dPar3O (i j l : Nat) (a : PEnv → TS' → R OC) (b c : DE) : DS := fun ρ τ => stE (a ρ τ) ρ fun x τ1 => stE (b ρ τ1) ρ fun y τ2 => stE (c ρ τ2) ρ fun z τ3 => .ok (.nx (((ρ.set i (some (.ow x))).set j (some (.fr y))).set l (some (.fr z)))) τ3
end
end Np
set_option Elab.async false
set_option linter.all false
set_option maxRecDepth 100000
namespace Np
open PySem L2
end Np
set_option Elab.async false
set_option linter.all false
set_option maxRecDepth 100000
set_option maxHeartbeats 4000000
namespace Np
open PySem PySem.Spec PyProof.Rows L2
section
variable {W : Wp} {Wx : L2.St → XK}
def dAsgL (e : DE) (ts : List Tg) : DS := fun ρ τ => stE (e ρ τ) ρ fun d τ1 => match d with
  | .lst ds => match tgFs ts ds ρ with
    | some ρ1 => .ok (.nx ρ1) τ1
    | none => .no
  | _ => .no
end
end Np
set_option Elab.async false
set_option linter.all false
set_option maxRecDepth 100000
set_option maxHeartbeats 4000000
namespace Np
open PySem PySem.Spec PyProof.Rows L2
section
variable {W : Wp} {Wx : L2.St → XK}
def dTryK (exm : Str → Option Bool) (i j : Nat) (δ : DS) : DS := fun ρ τ => match δ ρ τ with
  | .ok (.xc x ρ1) τ1 => match exm x.cls with
    | some true => if i < ρ1.length then .ok (.nx ((ρ1.set j (some (.fr (.exc x.cls x.fs)))).set i none)) τ1 else .no
    | some false => .ok (.xc x ρ1) τ1
    | none => .no
  | r => r
end
end Np
set_option Elab.async false
set_option linter.all false
set_option maxRecDepth 100000
set_option maxHeartbeats 4000000
namespace Np
open PySem PySem.Spec PyProof.Rows L2
section
variable {W : Wp} {Wx : L2.St → XK} {te : TE} {δ : DE}
theorem Rp.kept {K : PySem.W.Frag} {cm : CM} {G : GH} {v : V} {C : Str} {fs : List (Str × DD)} (r : Rp K cm G v (.exc C fs)) : ∃ a d xs, v = .ref a ∧ Kept G a (cm C) d xs ∧ (d = none → xs = []) ∧ RpF K cm G xs fs := by
  cases r with
  | exc h z q h2 rf => exact ⟨_, _, _, rfl, ⟨⟨_, _, h, z, q⟩, fun dd e => by subst e; exact h2⟩, fun e => by subst e; exact h2, rf⟩
def dIsX (kit : Str → Option Bool) (a : DE) : DE := fun ρ τ => (a ρ τ).bind fun x τ1 => match x with
  | .exc C _ => R.of τ1 ((kit C).map .bl)
  | _ => .no
/-- kept.field -/
def dFx (ok : Str → Bool) (f : Str) (a : DE) : DE := fun ρ τ => (a ρ τ).bind fun x τ1 => match x with
  | .exc C fs => if ok C = true then R.of τ1 (fs.lookup f) else .no
  | _ => .no
theorem RpF.look {K : PySem.W.Frag} {cm : CM} {G : GH} {f : Str} : ∀ {xs : List (Str × V)} {fs : List (Str × DD)} {d : DD}, RpF K cm G xs fs → fs.lookup f = some d → ∃ v, xs.lookup f = some v ∧ Rp K cm G v d
  | _, _, _, .nil, h => nomatch h
  | (k, v) :: vs, (_, d') :: ds, d, .cons r rs, h => by
    rw [List.lookup_cons] at h
    rw [List.lookup_cons]
    cases q : f == k with
    | true => rw [q] at h; cases h; exact ⟨v, rfl, r⟩
    | false => rw [q] at h; exact RpF.look rs h
end
def tb (A : Str) (v : Bool) (r : Str → Option Bool) : Str → Option Bool := fun s => if s = A then some v else r s
end Np
set_option Elab.async false
set_option linter.all false
set_option maxRecDepth 100000
set_option maxHeartbeats 4000000
namespace Np
open PySem PySem.Spec PyProof.Rows L2
section
variable {W : Wp} {Wx : L2.St → XK} {ta tb tc : TE} {δa δb δc : DE} {tr : TA} {δr : DA}
/-- x or y by truth -/
def dOrU (a b : DE) : DE := fun ρ τ => (a ρ τ).bind fun x τ1 => (R.of τ1 (tru x)).bind fun k τ2 => if k = true then .ok x τ2 else b ρ τ2
def dAndU (a b : DE) : DE := fun ρ τ => (a ρ τ).bind fun x τ1 => (R.of τ1 (tru x)).bind fun k τ2 => if k = true then b ρ τ2 else .ok x τ2
end
end Np
set_option Elab.async false
set_option linter.all false
set_option maxRecDepth 100000
set_option maxHeartbeats 4000000
namespace Np
open PySem PySem.Spec PyProof.Rows L2
inductive Ix where
  | a (i : Nat) | z (i : Nat) | c (i : Nat)
def pick1 {α : Type} (dv us ws : List α) : Ix → Option α
  | .a i => us[i]?
  | .z i => ws[i]?
  | .c i => dv[i]?
def pickL {α : Type} (dv : List α) (ix : List Ix) (us ws : List α) : List α := ix.filterMap (pick1 dv us ws)
theorem paired_at {α β : Type} {R : α → β → Prop} : ∀ {xs : List α} {ys : List β}, Paired R xs ys → ∀ i : Nat, (xs[i]? = none ∧ ys[i]? = none) ∨ ∃ x y, xs[i]? = some x ∧ ys[i]? = some y ∧ R x y
  | _, _, .nil, i => .inl ⟨by simp, by simp⟩
  | _, _, .cons h t, 0 => .inr ⟨_, _, rfl, rfl, h⟩
  | _, _, .cons h t, i + 1 => by simpa using paired_at t i
theorem pick_rel {α β : Type} {R : α → β → Prop} {dv us ws : List α} {dv' us' ws' : List β} (hd : Paired R dv dv') (hu : Paired R us us') (hw : Paired R ws ws') : ∀ ix : List Ix, Paired R (pickL dv ix us ws) (pickL dv' ix us' ws')
  | [] => .nil
  | i :: ix => by
    have ih := pick_rel hd hu hw ix
    have h : (pick1 dv us ws i = none ∧ pick1 dv' us' ws' i = none) ∨ ∃ x y, pick1 dv us ws i = some x ∧ pick1 dv' us' ws' i = some y ∧ R x y := by
      cases i with
      | a i => exact paired_at hu i
      | z i => exact paired_at hw i
      | c i => exact paired_at hd i
    unfold pickL at ih ⊢
    rcases h with ⟨h1, h2⟩ | ⟨x, y, h1, h2, r⟩
    · rw [List.filterMap_cons_none h1, List.filterMap_cons_none h2]; exact ih
    · rw [List.filterMap_cons_some h1, List.filterMap_cons_some h2]; exact .cons r ih
section
variable {K : PySem.W.Frag} {x qual : Str} {f : Addr} {fd : FuncData} {ps : List Str}
theorem Fun.kbp {st : Stmt} (F : Fun K x qual st f fd) (n : Nat) (ks : List Str) (ix : List Ix)
    (h : ∀ (kV doc pm : Value) (an : Option Addr) (cdv ct : Value) (us ws : List Value), us.length = n → ws.length = ks.length → bindArgs (PySem.W.fnOf x qual (defArgs st) (defBody st) (defScope st) .none kV doc pm an cdv ct) ⟨us, ks.zip ws⟩ = pure (ps.zip (pickL [] ix us ws))) : KB K fd ps n ks (pickL [] ix) :=
  Fun.kb F n ks (fun us ws => pickL [] ix us ws) (fun r1 r2 => pick_rel .nil r1 r2 ix) h
theorem FunD.kbp {params : Arguments} {body : List Stmt} {scope : Scope} {dvs : List V} (F : FunD K x qual params body scope dvs [] f fd) (n : Nat) (ks : List Str) (ix : List Ix) (hd : dvs ≠ [])
    (h : ∀ (T : Addr) (kV doc pm : Value) (an : Option Addr) (cdv ct : Value) (us its ws : List Value), us.length = n → its.length = dvs.length → ws.length = ks.length →
      ∃ k, bindArgs (PySem.W.fnOf x qual params body scope (.ref T) kV doc pm an cdv ct) ⟨us, ks.zip ws⟩ = seqItems? (.ref T) >>= k ∧ k (some its.toArray) = pure (ps.zip (pickL its ix us ws))) : KB K fd ps n ks (pickL dvs ix) := by
  obtain ⟨oc, od, dV, kV, doc, pm, an, cdv, ct, osl, rfl, lk, hcd, hD, hK⟩ := F.ex
  rcases hD with ⟨e, _⟩ | ⟨_, T, o, its, m, rfl, lT, oT, rT⟩
  · exact absurd e hd
  · refine ⟨fun us ws => pickL its ix us ws, ⟨fun s us ws X l1 l2 => ?_, fun r1 r2 => pick_rel rT r1 r2 ix⟩⟩
    obtain ⟨k, e1, e2⟩ := h T kV doc pm an cdv ct us its ws l1 rT.length.symm l2
    refine BindsTo.of_looks fun M => ?_
    rw [e1]
    exact looks_items X lT oT (.of_pure e2)
end
section
variable {W : Wp} {Wx : L2.St → XK} {tr tk : TA} {δr δk : DPs} {dvs : List V} {dv : List PV} {ix : List Ix}
theorem dn_kwN {k n m : Nat} {F : Fn} (hd : ∀ tp G, Paired (ArgR W tp G) dvs dv) (ha : DnPs W Wx tr δr) (hk : DnPs W Wx tk δk) : Dn W Wx (tCallKE n m (spP W k F) (pickL dvs ix) W0 tr tk) (dCallKN k n m F (pickL dv ix) δr δk) := fun tp G H σ ρ τ Q E P =>
  ha _ _ _ _ _ _ _ E (P.bind fun as τ1 vs G1 H1 e1 E1 r1 P1 => hk _ _ _ _ _ _ _ E1 (P1.bind fun bs τ2 zs G2 H2 e2 E2 r2 P2 => by
    by_cases h : as.length = n ∧ bs.length = m ∧ (pickL dv ix as bs).length = k
    · rw [if_pos h] at P2
      have hp := pick_rel (hd tp G2) (args_mono r1 e2.g) r2 ix
      refine ⟨by rw [Paired.len r1]; exact h.1, by rw [Paired.len r2]; exact h.2.1, by rw [Paired.len hp]; exact h.2.2, tp, G2, _, τ2, E2.g, hp, E2.t, ?_⟩
      revert P2
      cases F (pickL dv ix as bs) τ2 with
      | ok d τ' => exact fun P1 v G' H' e s t r => P1 v G' H' e (E2.ext e s t) r
      | ex x τ' => exact fun P1 => P1.elim
      | no => exact fun P1 => P1.elim
    · rw [if_neg h] at P2
      exact P2.elim))
end
theorem FnG.never {P : Program} {w : World} {K : PySem.W.Frag} {mg : Str → Option Value} {base : Heap} {CX : CXT} {k : Nat} {f : Addr} {fd : FuncData} {ps : List Str} {sp : Sp} (h : ∀ vs H Q E, sp vs H Q E → False) : FnG P w K mg base CX k f fd ps sp :=
  ⟨fun vs H Q E z => (h vs H Q E z).elim, fun A outer s H args us vs Q E _ _ _ _ _ z => (h vs H Q E z).elim⟩
section
variable {W : Wp} {Wx : L2.St → XK} {tp0 tp tp' : Option Addr} {G0 G G' : GH} {H0 H H' : Hp} {σ : L2.St} {ρ : PEnv} {τ τ' : TS'} {D : Ends} {te tk : TE} {δe δk : DE} {φ : PEnv → TS' → R OC}
/-- what is owned, as a tree -/
def ocT : OC → OT
  | .lst xs => .nd .lst (xs.map .fr)
  | .dK kvs => .nd (.dK (kvs.map (·.1))) (kvs.map fun z => .fr z.2)
  | .tr k ts => .nd k ts
theorem OwA.leaves : ∀ {vs : List V} {ds : List DD}, RpA W.K W.cm G vs ds → OwA W G H vs (ds.map .fr) []
  | _, _, .nil => .nil
  | _, _, .cons h r => OwA.cons (F := []) (.fr h) (OwA.leaves r) fun p hp => by cases hp
theorem OwA.leavesK : ∀ {vs : List (Key × V)} {ds : List (Key × DD)}, RpK W.K W.cm G vs ds → OwA W G H (vs.map (·.2)) (ds.map fun z => .fr z.2) [] ∧ ds.map (·.1) = vs.map (·.1)
  | _, _, .nil => ⟨.nil, rfl⟩
  | _, _, .cons h r => by
    obtain ⟨a, b⟩ := OwA.leavesK r
    exact ⟨OwA.cons (F := []) (.fr h) a (fun p hp => nomatch hp), by simp [b]⟩
theorem zip_unzip {α β : Type} : ∀ l : List (α × β), (l.map (·.1)).zip (l.map (·.2)) = l
  | [] => rfl
  | a :: l => by simp [zip_unzip l]
theorem OwR.tree {a : Addr} {c : OC} {F : List Addr} (w : OwR W G H a c F) : Ow W G H (.ref a) (ocT c) F := by
  cases c with
  | lst xs => obtain ⟨rfl, vs, h, r⟩ := w; exact .nd (show NodeAt W H a vs .lst from h) (OwA.leaves r) (by simp)
  | dK xs =>
    obtain ⟨rfl, vs, h, r⟩ := w
    obtain ⟨q, e⟩ := OwA.leavesK (H := H) r
    exact .nd (show NodeAt W H a (vs.map (·.2)) (.dK (xs.map (·.1))) from ⟨by rw [e]; simp, by rw [e, zip_unzip]; exact h⟩) q (by simp)
  | tr k ts => exact w
def dTrF (φ : PEnv → TS' → R OC) : PEnv → TS' → R OC := fun ρ τ => (φ ρ τ).bind fun c τ1 => match ocT c with
  | .nd k ts => .ok (.tr k ts) τ1
  | .fr _ => .no
theorem df_tr (h : DnF W Wx te φ) : DnF W Wx te (dTrF φ) := fun tp G H σ ρ τ Q E P => by
  refine h _ _ _ _ _ _ _ E ?_
  unfold dTrF at P
  revert P
  cases φ ρ τ with
  | ok c τ1 =>
    intro P p F G1 H1 e1 E1 w fr
    cases hc : ocT c with
    | fr d => cases c <;> simp [ocT] at hc
    | nd k ts =>
      rw [R.bind_ok, hc] at P
      exact P p F G1 H1 e1 E1 (by have := w.tree; rw [hc] at this; exact this) fr
  | ex x τ1 => exact fun P => P
  | no => exact fun P => P
theorem OwA.snoc {v : V} {t : OT} : ∀ {vs : List V} {ts : List OT} {F F' : List Addr}, OwA W G H vs ts F → Ow W G H v t F' → (∀ p ∈ F, p ∉ F') → OwA W G H (vs ++ [v]) (ts ++ [t]) (F ++ F')
  | _, _, _, F', .nil, h, _ => by have := OwA.cons h (OwA.nil (W := W) (G := G) (H := H)) (by simp); simpa using this
  | _, _, _, F', .cons (F := F1) (F' := F2) h r n, q, d => by
    rw [List.append_assoc]
    refine OwA.cons h (OwA.snoc r q fun p hp => d p (List.mem_append_right _ hp)) fun p hp z => ?_
    rcases List.mem_append.mp z with z | z
    · exact n p hp z
    · exact d p (List.mem_append_left _ hp) z
theorem OwA.len : ∀ {vs : List V} {ts : List OT} {F : List Addr}, OwA W G H vs ts F → vs.length = ts.length
  | _, _, _, .nil => rfl
  | _, _, _, .cons _ r _ => congrArg Nat.succ (OwA.len r)
/-- x.append(e), e a new thing that x then owns -/
def dAppT (i : Nat) (φ : PEnv → TS' → R OC) : DS := fun ρ τ => match ρ[i]? with
  | some (some (.ow (.tr .lst ts))) => stE (φ ρ τ) ρ fun c τ1 => if ts.length < sizeLine then .ok (.nx (ρ.set i (some (.ow (.tr .lst (ts ++ [ocT c])))))) τ1 else .no
  | _ => .no
theorem ds_appT {i : Nat} (he : DnF W Wx te φ) : DnS W Wx (tDrop (tBM W.K "list" rAppend (tVar i) (tCons te tNil))) (dAppT i φ) := fun tp0 G0 H0 tp G H σ ρ τ D E P => by
  unfold dAppT at P
  split at P
  · rename_i ts hi
    obtain ⟨a, F, ha, w⟩ := E.getO hi
    cases (show Ow W G H _ _ _ from w) with | nd hn ra na =>
    rename_i vs F
    refine ⟨_, ha, .inl ⟨rfl, vs, SqL.of hn⟩, dnF_run he E P fun c τ1 p F' G1 H1 E1 e1 h n P1 => ?_⟩
    obtain ⟨b, F1, hb, w1⟩ := E1.getO hi
    rw [ha] at hb
    cases hb
    have w0 := E.v.backE e1 hi ha w1
    cases (show _ = F1 from w.uniq w0)
    cases (show Ow W G1 H1 _ _ _ from w1) with | nd hn1 ra1 na1 =>
    rename_i vs1
    by_cases hl : ts.length < sizeLine
    · rw [if_pos hl] at P1
      have dj : ∀ q ∈ a :: F, q ∉ F' := fun q hq z => h.no q z i _ a _ hi ha w1 hq
      have kp : ∀ q, q ≠ a → upd H1 a (.lst (vs1 ++ [.ref p])) q = H1 q := fun q hq => upd_ne hq
      refine ⟨a, vs1, .ref p, rfl, rfl, hn1, by rw [ra1.len]; exact hl, P1 tp G1 _ σ (GS.refl _) (E1.mutG (F' := a :: (F ++ F')) hi ha w1 (fun q o hq hh => by rw [kp q (fun z => hq (by rw [z]; simp))]; exact hh) ?_ fun q hq => ?_)⟩
      · refine Ow.nd (show NodeAt W _ a (vs1 ++ [.ref p]) .lst from upd_same) (OwA.snoc (ra1.keep (GS.refl _) fun q hq o hh => by rw [kp q (fun z => na1 (by rw [← z]; exact hq))]; exact hh) (h.w.tree.keep (GS.refl _) fun q hq o hh => by rw [kp q (fun z => dj a (by simp) (by rw [← z]; exact hq))]; exact hh) fun q hq => dj q (List.mem_cons_of_mem _ hq)) fun z => ?_
        rcases List.mem_append.mp z with z | z
        · exact na1 z
        · exact dj a (by simp) z
      · rcases List.mem_cons.mp hq with rfl | hq
        · exact .inl (by simp)
        · rcases List.mem_append.mp hq with hq | hq
          · exact .inl (List.mem_cons_of_mem _ hq)
          · exact .inr ⟨h.no q hq, (h.fr q hq).1, (h.fr q hq).2, (n q hq).2⟩
    · rw [if_neg hl] at P1
      exact P1.elim
  · exact P.elim
/-- x.append(e), e as it stays -/
def dAppL (i : Nat) (e : DE) : DS := fun ρ τ => match ρ[i]? with
  | some (some (.ow (.tr .lst ts))) => stE (e ρ τ) ρ fun d τ1 => if ts.length < sizeLine then .ok (.nx (ρ.set i (some (.ow (.tr .lst (ts ++ [.fr d])))))) τ1 else .no
  | _ => .no
/-- one child of a node: what it is, and that it may become another one with the same feet -/
theorem OwA.focus : ∀ {vs : List V} {ts : List OT} {F : List Addr} {j : Nat} {t : OT}, OwA W G H vs ts F → ts[j]? = some t → ∃ v Fj, vs[j]? = some v ∧ Ow W G H v t Fj ∧ (∀ q ∈ Fj, q ∈ F) ∧
    ∀ {G2 : GH} {H2 : Hp} {t2 : OT}, GS G G2 → (∀ q ∈ F, q ∉ Fj → ∀ o, H q = some o → H2 q = some o) → Ow W G2 H2 v t2 Fj → OwA W G2 H2 vs (ts.set j t2) F
  | _, _, _, _, _, .nil, e => by simp at e
  | _, _, _, 0, t, .cons (F := F1) (F' := F2) h r n, e => by
    simp only [List.getElem?_cons_zero, Option.some.injEq] at e
    subst e
    refine ⟨_, F1, rfl, h, fun q hq => List.mem_append_left _ hq, fun g k w => ?_⟩
    exact OwA.cons w (r.keep g fun q hq => k q (List.mem_append_right _ hq) fun z => n q z hq) n
  | _, _, _, j + 1, t, .cons (F := F1) (F' := F2) h r n, e => by
    obtain ⟨v, Fj, h1, h2, h3, h4⟩ := OwA.focus (j := j) r (by simpa using e)
    refine ⟨v, Fj, by simpa using h1, h2, fun q hq => List.mem_append_right _ (h3 q hq), fun g k w => ?_⟩
    exact OwA.cons (h.keep g fun q hq => k q (List.mem_append_left _ hq) fun z => n q hq (h3 q z)) (h4 g (fun q hq => k q (List.mem_append_right _ hq)) w) n
/-- x[k].append(e) -/
def dAppIx (i : Nat) (k e : DE) : DS := fun ρ τ => match ρ[i]? with
  | some (some (.ow (.tr .lst ts))) => stE (k ρ τ) ρ fun n τ1 => match n with
    | .int n => match ixN ts.length n with
      | some j => match ts[j]? with
        | some (.nd .lst us) => stE (e ρ τ1) ρ fun d τ2 => if us.length < sizeLine then .ok (.nx (ρ.set i (some (.ow (.tr .lst (ts.set j (.nd .lst (us ++ [.fr d])))))))) τ2 else .no
        | _ => .no
      | none => .no
    | _ => .no
  | _ => .no
theorem ds_appIx {i : Nat} (hk : Dn W Wx tk δk) (he : Dn W Wx te δe) : DnS W Wx (tDrop (tBM W.K "list" rAppend (tOp (rIxL W.K) (tVar i) tk) (tCons te tNil))) (dAppIx i δk δe) := fun tp0 G0 H0 tp G H σ ρ τ D E P => by
  unfold dAppIx at P
  split at P
  · rename_i ts hi
    obtain ⟨a, F, ha, w⟩ := E.getO hi
    refine ⟨_, ha, hk _ _ _ _ _ _ _ E.v (P.bind E fun n τ1 kv G1 H1 E1 e1 r1 P1 => ?_)⟩
    cases r1 <;> first | exact P1.elim | skip
    rename_i n
    cases hj : ixN ts.length n with
    | none => simp only [hj] at P1; exact P1.elim
    | some j =>
      simp only [hj] at P1
      split at P1
      · rename_i us hu
        obtain ⟨b, F1, hb, w1⟩ := E1.getO hi
        rw [ha] at hb
        cases hb
        cases (show Ow W G1 H1 _ _ _ from w1) with | nd hn1 ra1 na1 =>
        rename_i vs1 F1
        obtain ⟨v, Fj, h1, h2, h3, h4⟩ := ra1.focus hu
        cases h2 with | nd hnj raj naj =>
        rename_i b ws Fb
        have hn1' : H1 a = some (.lst vs1) := hn1
        have hnj' : H1 b = some (.lst ws) := hnj
        have hat : atI vs1 n = some (.ref b) := by
          unfold atI
          rw [ra1.len, hj]
          exact h1
        refine ⟨a, vs1, n, .ref b, rfl, rfl, SqL.of hn1', hat, .inl ⟨rfl, ws, SqL.of hnj'⟩, he _ _ _ _ _ _ _ E1.v (P1.bind E1 fun d τ2 y G2 H2 E2 e2 r2 P2 => ?_)⟩
        obtain ⟨b', F2, hb, w2⟩ := E2.getO hi
        rw [ha] at hb
        cases hb
        have w0 := E1.v.backE e2 hi ha w2
        cases (show _ = F2 from w1.uniq w0)
        cases (show Ow W G2 H2 _ _ _ from w2) with | nd hn2 ra2 na2 =>
        rename_i vs2
        have hk1 : H2 a = some (.lst vs1) := by
          obtain ⟨F0, w00, gn⟩ := E1.v.own hi ha
          exact e2.h a _ (gn a w00.mem).2 rfl hn1'
        have hn2' : H2 a = some (.lst vs2) := hn2
        rw [hk1] at hn2'
        cases hn2'
        obtain ⟨v2, Fj2, g1, g2, g3, g4⟩ := ra2.focus hu
        rw [h1] at g1
        cases g1
        cases g2 with | nd hnb rab nab =>
        rename_i ws2 Fb2
        by_cases hl : us.length < sizeLine
        · rw [if_pos hl] at P2
          have hnb' : H2 b = some (.lst ws2) := hnb
          have ba : b ≠ a := fun z => na2 (by rw [← z]; exact g3 b (by simp))
          have kp : ∀ q, q ≠ b → upd H2 b (.lst (ws2 ++ [y])) q = H2 q := fun q hq => upd_ne hq
          refine ⟨b, ws2, y, rfl, rfl, hnb', by rw [rab.len]; exact hl, P2 tp G2 _ σ (GS.refl _) (E2.mutG (F' := _) hi ha w2 (fun q o hq hh => by rw [kp q (fun z => hq (by rw [z]; exact List.mem_cons_of_mem _ (g3 b (by simp))))]; exact hh) ?_ fun q hq => .inl hq)⟩
          refine Ow.nd (show NodeAt W _ a vs1 .lst from ?_) (g4 (GS.refl _) (fun q hq nq o hh => by rw [kp q (fun z => nq (by rw [z]; simp))]; exact hh) ?_) na2
          · show upd H2 b _ a = _
            rw [kp a (fun z => ba z.symm)]
            exact hk1
          · have := Ow.nd (show NodeAt W (upd H2 b (.lst (ws2 ++ [y]))) b (ws2 ++ [y]) .lst from upd_same) (OwA.snoc (rab.keep (GS.refl _) fun q hq o hh => by rw [kp q (fun z => nab (by rw [← z]; exact hq))]; exact hh) (.fr r2) fun q hq => by simp) (F := Fb2 ++ []) (by simpa using nab)
            simpa using this
        · rw [if_neg hl] at P2
          exact P2.elim
      · exact P1.elim
  · exact P.elim
end
end Np
set_option Elab.async false
set_option linter.all false
set_option maxRecDepth 100000
set_option maxHeartbeats 4000000
namespace Np
open PySem PySem.Spec PyProof.Rows L2
/-- a def behind whose call a token is out -/
structure FnT (P : Program) (w : World) (K : PySem.W.Frag) (mg : Str → Option Value) (base : Heap) (CX : CXT) (k : Nat) (f : Addr) (fd : FuncData) (ps : List Str) (sp : Sp) : Prop where
  len : ∀ vs H Q E, sp vs H Q E → vs.length = ps.length
  run : ∀ (A : Around) (outer : List Env) (s : Shared) (H : Hp) (args : Args) (us : List Value) (vs : List V) (Q : VK) (E : XK), A.guards = some [] → Room k A → Env0 P w K mg base A outer s H → BindsTo s fd args (ps.zip us) → Vals vs us → sp vs H Q E →
    codeAny (model P w) A (.call (.ref f) args) (fun r s' => (∀ fl, r = .ok fl → 1 ≤ s'.toks) ∧ CR CX outer P w H s Q E r s') s
theorem FnT.fn {P : Program} {w : World} {K : PySem.W.Frag} {mg : Str → Option Value} {base : Heap} {CX : CXT} {k : Nat} {f : Addr} {fd : FuncData} {ps : List Str} {sp : Sp} (F : FnT P w K mg base CX k f fd ps sp) : FnG P w K mg base CX k f fd ps sp :=
  ⟨F.len, fun A outer s H args us vs Q E a b c d e g => codeAny_mono (F.run A outer s H args us vs Q E a b c d e g) fun _ _ z => z.2⟩
structure OkT (P : Program) (w : World) (K : PySem.W.Frag) (mg : Str → Option Value) (base : Heap) (CX : CXT) (k : Nat) (x : Str) (ps : List Str) (sp : Sp) (f : Addr) (fd : FuncData) : Prop where
  ok : FnT P w K mg base CX k f fd ps sp
  m : mg x = some (.ref f)
  kp : PySem.W.keepIn K (.ref f) = true
/-- a block behind which a token is out -/
def PSsP (X : Cx) (st : List Stmt) (t : L2.TS) : Prop :=
  ∀ (pins : List (Addr × Obj)) (s : Shared) (σ : L2.St) (H : Hp) (D : Ends), L2.Inv X pins σ H s → t D σ H → wpAny (model X.prog X.w) X.A (execs st X.env) (fun f s' => 1 ≤ s'.toks ∧ SP X pins D f s') X.xe s
theorem pssP_str {X : Cx} {rest : List Stmt} {u : L2.TS} {i j : Nat} {x c : Str} {cpos pos' pos : Pos} (hN : X.N.Nodup) (hi : X.N[i]? = some x) (hx : Loc X.env.scope x) (h2 : PSs X rest u)
    (hs : swapsWith (.Constant (.str c) j cpos) (some (.Name x pos')) pos.line X.env = pure false := by rfl) (hf : X.fn x = true ∨ X.env.scope.names.lookup x = some .local := by first | exact .inl rfl | exact .inr rfl | assumption) :
    PSsP X (.Assign [.Name x pos'] (.Constant (.str c) j cpos) pos :: rest) (tSeq (tAsg (tC (.str c)) (gName i)) u) := by
  intro pins s σ H D I h
  refine wpAny_execs_cons (wpAny_Assign_Name (Calls.Constant_str ?_) hs)
  have st := store_ok (M := model X.prog X.w) (A := X.A) (v := V.str c) (u := Value.str c s.toks) (Q := fun _ s2 => L2.Inv X pins (σ.set i (some (V.str c))) H s2) (E := X.xe) (I.tok (s.toks + 1)) hN hi hx ⟨s.toks, rfl⟩ (fun _ I2 => I2) hf
  refine wpAny_mono (PySem.wpAny_toks st) (fun _ s2 q => ?_) fun _ s2 z => z.2
  have hk : s.toks + 1 ≤ s2.toks := q.1
  exact wpAny_mono (PySem.wpAny_toks_of (n := 1) (by omega) (h2.run pins s2 _ H D q.2 h)) (fun _ _ z => z) fun _ _ z => z.2
theorem fn_ofT' {CX : CXT} {P : Program} {w : World} {K : PySem.W.Frag} {mg : Str → Option Value} {base : Heap} {k : Nat} {f : Addr} {name qual : Str} {params : Arguments} {body : List Stmt} {scope : Scope} {dV kV doc pm cdv ct oc : Value} {an od : Option Addr}
    {osl : Array (Option Value)} {N ps : List Str} {sp : Sp} (lk : K.lookup f = some ⟨oc, od, .func (PySem.W.fnOf name qual params body scope dV kV doc pm an cdv ct), osl⟩) (hcd : PySem.W.codeIn K cdv qual = true) (S : FnScope N ps scope)
    (len : ∀ vs H Q E, sp vs H Q E → vs.length = ps.length)
    (hbody : ∀ (A : Around) (outer : List Env) (s : Shared) (H : Hp) (vs : List V) (Q : VK) (E : XK), A.guards = some [] → Room k (A.deeper (envOfC qual scope s.heap.objs.size f cdv)) → sp vs H Q E →
      ∃ t, PSsP (cxOf CX P w K mg base N qual scope f cdv A outer s H E) body t ∧ t { nx := fun _ H' => Q .non H', rt := Q } (start N vs) H) :
    FnT P w K mg base CX (k + 1) f (PySem.W.fnOf name qual params body scope dV kV doc pm an cdv ct) ps sp := by
  refine ⟨len, fun A outer s H args us vs Q E hgd room e0 hbi rel hsp => ?_⟩
  have hlen := len _ _ _ _ hsp
  have inK : K.In s.heap := e0.mod.kin.keeps fun b o q => (e0.bs b o q).1
  have limit : s.heap.NoLimit := e0.mod.nolimit.keeps fun b o q => (e0.bs b o q).1
  have kinds : ∀ y ∈ ps.zip us, scope.names.lookup y.1 = some .local ∨ (scope.names.lookup y.1 = some .cell ∧ ((cellsFrom (s.heap.objs.size + 1) scope.names []).lookup y.1).isSome = true) := fun ⟨nm, v⟩ hy => by
    rcases S.par nm (List.of_mem_zip hy).1 with z | z
    · exact .inl z
    · exact .inr ⟨z, PySem.W.cellsFrom_some _ _ _ (.inl z)⟩
  refine codeAny_call_function room.depth (inK _ _ lk) rfl S.co S.gen rfl (PySem.W.codeRec_of inK hcd) (hbi _ _ _ _ ?_)
  refine wpAny_newFunctionEnv_cells S.kind kinds fun env henv s1 x => ?_
  subst henv
  refine ⟨limit.keeps x.toInCall.keep, codeAny_func ?_⟩
  obtain ⟨t, ht, hq⟩ := hbody A outer s H vs Q E hgd (room.deeper _) hsp
  have I0 : L2.Inv (cxOf CX P w K mg base N qual scope f cdv A outer s H E) [] (start N vs) H s1 := inv_start S room.hd e0 hlen rel x
  refine wpAny_mono (ht [] s1 (start N vs) H _ I0 hq) (fun fl s' hs => ?_) fun _ _ z => wpAny_mono z (fun _ _ y => ⟨(fun _ e => nomatch e), y⟩) fun _ _ y => ⟨(fun _ e => nomatch e), y⟩
  obtain ⟨htk, hs⟩ := hs
  have done : ∀ {σ' : L2.St} {H' : Hp} {v : V} {u : Value}, L2.Inv (cxOf CX P w K mg base N qual scope f cdv A outer s H E) [] σ' H' s' → RelV v u → Q v H' → CE outer P w H s Q u s' :=
    fun {σ' H' v u} J rv q => ⟨v, H', J.os, J.bare, J.base, J.hok, rv, q⟩
  cases fl with
  | ret u =>
    obtain ⟨v, σ', H', J, rv, q⟩ := hs
    exact ⟨fun _ _ => htk, done J rv q⟩
  | next =>
    obtain ⟨σ', H', J, q⟩ := hs
    exact ⟨fun _ _ => htk, done (v := V.non) (u := Value.none) J rfl q⟩
  | brk =>
    obtain ⟨_, _, _, q⟩ := hs
    exact q.elim
  | cont =>
    obtain ⟨_, _, _, q⟩ := hs
    exact q.elim
section
variable {P : Program} {w : World} {K : PySem.W.Frag} {mg : Str → Option Value} {base : Heap} {x qual : Str} {st : Stmt} {f : Addr} {fd : FuncData} {N ps : List Str} {k : Nat} {sp : Sp}
theorem Fun.okT (F : Fun K x qual st f fd) (S : FnScope N ps (defScope st)) (len : ∀ vs H Q E, sp vs H Q E → vs.length = ps.length)
    (hbody : ∀ (cdv : Value) (A : Around) (outer : List Env) (s : Shared) (H : Hp) (vs : List V) (Q : VK) (E : XK), (A.deeper (envOfC qual (defScope st) s.heap.objs.size f cdv)).guards = some [] → Room k (A.deeper (envOfC qual (defScope st) s.heap.objs.size f cdv)) → sp vs H Q E →
      ∃ t, PSsP (cxOf CX0 P w K mg base N qual (defScope st) f cdv A outer s H E) (defBody st) t ∧ t { nx := fun _ H' => Q .non H', rt := Q } (start N vs) H) : FnT P w K mg base CX0 (k + 1) f fd ps sp := by
  obtain ⟨oc, od, kV, doc, pm, an, cdv, ct, osl, rfl, lk, hcd⟩ := F.ex
  exact fn_ofT' lk hcd S len fun A outer s H vs Q E hgd hr hsp => hbody cdv A outer s H vs Q E hgd hr hsp
end
/-- an expression behind which a token is out -/
def PEP (X : Cx) (e : Expr) (t : TE) : Prop :=
  ∀ (pins : List (Addr × Obj)) (s : Shared) (σ : L2.St) (H : Hp) (Q : VK), L2.Inv X pins σ H s → t σ H Q → wpAny (model X.prog X.w) X.A (eval e X.env) (fun v s' => 1 ≤ s'.toks ∧ EP X pins σ Q v s') X.xe s
section
variable {X : Cx} {CX : CXT} {k n : Nat} {f : Addr} {fd : FuncData} {ps ks : List Str} {sp : Sp} {E : L2.St → XK} {x : Str} {p pos : Pos} {e : Expr} {es : List Expr} {t : TA} {dvs : List V}
theorem PEP.pe {e : Expr} {t : TE} (h : PEP X e t) : PE X e t := ⟨fun pins s σ H Q I q => wpAny_mono (h pins s σ H Q I q) (fun _ _ z => z.2) fun _ _ z => z⟩
theorem run_tw {pins : List (Addr × Obj)} {σ : L2.St} {H : Hp} {s : Shared} {Q : VK} {us ds : List Value} {vs : List V} {E : XK} (F : FnT X.prog X.w X.K X.mg X.base CX k f fd ps sp) (hgd : X.A.guards = some []) (hr : Room k X.A) (hb : Binds X.K fd ps ds) (hd : Vals dvs ds) (hx : PassesAt CX X σ E)
    (I : L2.Inv X pins σ H s) (r : Vals vs us) (h : sp (vs ++ dvs) H Q E) : wpAny (model X.prog X.w) X.A (call (.ref f) us) (fun v s' => 1 ≤ s'.toks ∧ EP X pins σ Q v s') X.xe s := by
  have r2 : Vals (vs ++ dvs) (us ++ ds) := r.append hd
  have hl : (us ++ ds).length = ps.length := by rw [← r2.length]; exact F.len _ _ _ _ h
  refine wpAny_call (codeAny_mono (F.run X.A X.stack s H ⟨us, []⟩ _ _ Q E hgd hr I.env0 (hb s us I.kIn hl) r2 h) fun r s' hq => ?_)
  obtain ⟨htk, hq⟩ := hq
  cases r with
  | error e => exact hx pins H s e s' I hq
  | ok fl =>
    cases fl with
    | ret u => exact ⟨htk _ rfl, I.after hq⟩
    | next => exact False.elim hq
    | brk => exact False.elim hq
    | cont => exact False.elim hq
theorem pep_c (O : OkT X.prog X.w X.K X.mg X.base CX k x ps sp f fd) (b : ∃ ds, Vals dvs ds ∧ Binds X.K fd ps ds) (hgd : X.A.guards = some []) (hr : Room k X.A) (hx : ∀ σ, PassesAt CX X σ (E σ)) (ha : PA X (e :: es) t) (hg : Gl X x := by rfl)
    (hdb : (x == ("__debug__" : Str)) = false := by decide) (he : starEach (e :: es) X.env = (false, eval e X.env) :: starEach es X.env := by rfl) (hpl : (backTo pos (starEach es X.env)).any (·.1) = false := by rfl) :
    PEP X (.Call (.Name x p) (e :: es) [] pos) (tCallE sp dvs E t) := by
  obtain ⟨ds, hv, hb⟩ := b
  intro pins s σ H Q I h
  refine wpAny_Call_Name_kw (ld_glob I hg O.m ?_ hdb)
  refine PySem.W.callWith_K (h₀ := X.base) I.ok.mod.kin O.kp (L2.thn (ha.run pos pins s σ H _ I h) fun us s1 hh => ?_) he hpl
  obtain ⟨vs, H1, I1, r, q⟩ := hh
  exact ⟨I1.kIn, run_tw O.ok hgd hr hb hv (hx σ) I1 r q⟩
theorem pep_repl {o : Expr} {to : TE} {y z : Str} {j k : Nat} {c0 c1 apos pos : Pos} (ho : PEP X o to) (hyz : (y == z) = false := by decide)
    (hst : starEach [.Constant (.str y) j c0, .Constant (.str z) k c1] X.env = [(false, eval (.Constant (.str y) j c0) X.env), (false, eval (.Constant (.str z) k c1) X.env)] := by rfl)
    (hbase : attributeBase o "replace" X.env (eval o X.env) = eval o X.env := by rfl) (hline : (apos.endLine == pos.line) = true := by rfl) :
    PEP X (.Call (.Attribute o "replace" apos) [.Constant (.str y) j c0, .Constant (.str z) k c1] [] pos) (CwR.tReplC to y z) := by
  intro pins s σ H Q I h
  refine PySem.Call_method2 hbase hst hline (wpAny_mono (ho pins s σ H _ I h) (fun v s1 q => ?_) fun _ _ z => z)
  obtain ⟨hk, v', H1, I1, r1, x, e1, hb, q⟩ := q
  subst e1
  obtain ⟨tx, e2⟩ := r1
  subst e2
  refine ⟨"str", _, PySem.F.plainAttrs_str, PySem.F.slot_str_replace, PySem.F.type_str_replace, typeIs_str _ _ _, (fun _ e => nomatch e), Calls.callWith_builtin rfl (Calls.evalArgs_plain (Calls.spliced_cons ?_))⟩
  refine Calls.Constant_str (Calls.spliced_cons (Calls.Constant_str (Calls.spliced_nil ?_)))
  have R := PySem.SC.replace (prog := X.prog) (w := X.w) (A := X.A) (E := X.xe) (s := { s1 with toks := s1.toks + 1 + 1 }) (x := x) (y := y) (z := z) (t := tx) (u := s1.toks) (v := s1.toks + 1) (Q := EP X pins σ Q) (by show s1.toks ≠ 0; omega) (by show s1.toks + 1 ≠ 0; omega) (by show s1.toks ≠ s1.toks + 1; omega) hyz hb fun t' k => ⟨.str (Txt.replace x y z), H1, I1.tok k, ⟨t', rfl⟩, q⟩
  exact wpAny_mono (PySem.wpAny_toks_of (n := 1) (by show 1 ≤ s1.toks + 1 + 1; omega) R) (fun _ _ z => z) fun _ _ z => z.2
end
section
variable {W : Wp} {Wx : L2.St → XK} {to : TE} {δ : DE}
def gRepl (y z : Str) : DD → Option DD
  | .str x => if x.length + (x.length + 1) * z.length ≤ 16777216 then some (.str (Txt.replace x y z)) else none
  | _ => none
theorem dn_repl {y z : Str} (h : Dn W Wx to δ) : Dn W Wx (CwR.tReplC to y z) (dUn (gRepl y z) δ) := fun tp G H σ ρ τ Q E P =>
  h _ _ _ _ _ _ _ E (P.bind fun a τ1 x G1 H1 e1 E1 r1 P1 => by
    obtain ⟨c, hc, P2⟩ := P1.of
    cases a <;> first | (cases hc; done) | skip
    rename_i w
    obtain ⟨hb, rfl⟩ := ifs (show (if w.length + (w.length + 1) * z.length ≤ 16777216 then some (DD.str (Txt.replace w y z)) else none) = some c from hc)
    exact ⟨w, r1.str_of, hb, P2 _ G1 H1 Ext.refl E1 (.str _)⟩)
end
end Np
set_option Elab.async false
set_option linter.all false
set_option maxRecDepth 100000
set_option maxHeartbeats 4000000
namespace Np
open PySem PySem.Spec PyProof.Rows L2
def shIx : Ix → Ix
  | .a i => .a (i + 1)
  | .z i => .z i
  | .c i => .c i
theorem pick_self {α : Type} (dv us ws : List α) (r : α) (ix : List Ix) : pickL dv (.a 0 :: ix.map shIx) (r :: us) ws = r :: pickL dv ix us ws := by
  unfold pickL
  rw [List.filterMap_cons_some (show pick1 dv (r :: us) ws (.a 0) = some r from rfl), List.filterMap_map]
  congr 2
  funext i
  cases i with
  | a i => show (r :: us)[i + 1]? = us[i]?; simp
  | z i => rfl
  | c i => rfl
section
variable {W : Wp} {Wx : L2.St → XK} {tr tk : TA} {δr δk : DA}
/-- which object -/
def mkD (cls : Str) (names : List Str) (ix : List Ix) (as bs : List DD) : DD := .obj cls (names.zip (pickL [] ix as bs))
def dMkN (n m : Nat) (cls : Str) (names : List Str) (ix : List Ix) (a b : DA) : DE := fun ρ τ => (a ρ τ).bind fun as τ1 => (b ρ τ1).bind fun bs τ2 =>
  if as.length = n ∧ bs.length = m ∧ (pickL [] ix as bs).length = names.length then .ok (mkD cls names ix as bs) τ2 else .no
/-- o.field -/
def dFld (cls : Str) (f : Str) (a : DE) : DE := fun ρ τ => (a ρ τ).bind fun x τ1 => match x with
  | .obj C fs => if C = cls then R.of τ1 (fs.lookup f) else .no
  | _ => .no
theorem dn_fld {cls f : Str} {te : TE} {δ : DE} (hC : Cls W.K (W.cm cls)) (hn : NoAttr W.K (W.cm cls) f) (he : Dn W Wx te δ) : Dn W Wx (tFld W.K te f) (dFld cls f δ) := fun tp G H σ ρ τ Q E P =>
  he _ _ _ _ _ _ _ E (P.bind fun a τ1 x G1 H1 e1 E1 r1 P1 => by
    cases a <;> first | exact P1.elim | skip
    rename_i C fs
    by_cases ho : C = cls
    · subst ho
      simp only [if_true] at P1
      obtain ⟨y, hy, P2⟩ := P1.of
      cases r1 with | obj h rf =>
      obtain ⟨v, hv, rv⟩ := rf.look hy
      exact ⟨_, _, _, _, v, rfl, E1.g _ _ h, hC, hn, hv, P2 _ G1 H1 Ext.refl E1 rv⟩
    · simp only [ho] at P1
      exact P1.elim)
end
theorem pe_fldK {X : Cx} (K : PySem.W.Frag) {e : Expr} {te : TE} {pos : Pos} {n : Str} (he : PE X e te) (hb : attributeBase e n X.env (eval e X.env) = eval e X.env := by rfl) (hK : X.K = K := by rfl) : PE X (.Attribute e n pos) (tFld K te n) := by
  subst hK
  exact pe_fld he hb
section
variable {W : Wp} {Wx : L2.St → XK} {tr tk : TA} {δr δk : DA}
def enumF (k0 : Int) (ds : List DD) : List DD := ds.mapIdx fun i d => DD.tup [.int (k0 + (i : Nat)), d]
def dIEnumF (a b : DA) : DI := fun ρ τ => (a ρ τ).bind fun x τ1 => (b ρ τ1).bind fun y τ2 => match x, y with
  | [.lst ds], [.int k0] => if -(2 ^ 63) ≤ k0 ∧ k0 < 2 ^ 63 then .ok (enumF k0 ds) τ2 else .no
  | _, _ => .no
def rangeC (lo c : Int) (n : Nat) : List DD := (List.range n).map fun (i : Nat) => DD.int (lo + i * c)
instance (i j c : Int) (n : Nat) : Decidable (RgC i j c n) := by unfold RgC; infer_instance
def dIR3 (a : DA) : DI := fun ρ τ => (a ρ τ).bind fun x τ1 => match x with
  | [.int i, .int j, .int c] => if RgC i j c (Builtin.Range.rangeSize i j c).toNat then .ok (rangeC i c (Builtin.Range.rangeSize i j c).toNat) τ1 else .no
  | _ => .no
end
def c3 (g : DD → DD → DD → Option DD) : List DD → Option DD
  | [a, b, c] => g a b c
  | _ => none
def min3 (i j k : Int) : Int := if k < (if j < i then j else i) then k else if j < i then j else i
def gMin3 : DD → DD → DD → Option DD
  | .int i, .int j, .int k => some (.int (min3 i j k))
  | _, _, _ => none
end Np
set_option Elab.async false
set_option linter.all false
set_option maxRecDepth 100000
set_option maxHeartbeats 4000000
namespace Np
open PySem PySem.Spec PyProof.Rows L2 PySem.HandSPX
/-- the __init__ that a builtin class has of its own -/
structure IniF (B initId : String) : Prop where
  pl : plainId initId = true
  en : entryFor table initId = some Builtin.«BaseException.__init__»
  sp : splitId initId = some (B, "__init__")
  kd : builtinKind initId = some .slot
  rw_ : Manifest.signature? initId = some ⟨.positional, "*", B, .self, [⟨"args", .varPos, false⟩]⟩
  ns : (B != "*") = true
/-- the __new__ by which a class with these bases is made -/
structure NewF (newId : String) (bm : List Value) : Prop where
  ex : ∃ B0 i0 bm0, ExcBaseFacts B0 newId i0 bm0 ∧ bm.contains (.type B0) = true
  na : bm.contains (.type "AttributeError") = false
  nn : bm.contains (.type "NameError") = false
theorem IniF.of {B n i : String} {bm : List Value} (F : ExcBaseFacts B n i bm) : IniF B i := ⟨F.init.plain, F.initEntry, F.initSplit, F.initKind, F.initRow, F.noStar⟩
theorem NewF.of {B n i : String} {bm : List Value} (F : ExcBaseFacts B n i bm) : NewF n bm := ⟨⟨B, i, bm, F, F.hasB⟩, F.noAttr, F.noName⟩
end Np
set_option Elab.async false
set_option linter.all false
set_option maxRecDepth 100000
set_option maxHeartbeats 4000000
namespace Np
open PySem PySem.Spec PyProof.Rows L2
/-- what the written part says of a class over the base B -/
structure OexB (B newId initId : String) (bmB : List Value) (K : PySem.W.Frag) (C : Addr) : Prop where
  fb : NewF newId bmB ∧ IniF B initId ∧ bmB.contains (.type B) = true
  sf : StoreFacts B bmB "object.__setattr__" "object"
  cls : ∃ nm q N bs bm sn sub ab col dd k0 k1 k2 k3 k5, K.lookup C = some (excClassObj nm q C N bs bm true sn sub ab col dd k0 k1 k2 k3 k5 newId) ∧ PySem.W.excTail bmB bm = true
  sa : PySem.W.findIn K (.ref C) "__setattr__" = some (some (.builtin "object.__setattr__"))
  exC : PySem.W.subIn K (.ref C) (.type "BaseException") = some true
  tyC : PySem.W.typeIn K (.ref C) = some (.type "type")
  kC : PySem.W.keepIn K (.ref C) = true
section
variable {B newId initId : String} {bmB : List Value} {K : PySem.W.Frag} {C : Addr}
theorem OexB.has (T : OexB B newId initId bmB K C) : ∃ cd, PySem.W.clsIn K C = some cd ∧ cd.hasDict = true ∧ PySem.W.excOver K C bmB = true := by
  obtain ⟨nm, q, N, bs, bm, sn, sub, ab, col, dd, k0, k1, k2, k3, k5, hC, hb⟩ := T.cls
  have e : PySem.W.clsIn K C = some { name := nm, bases := bs, mro := .ref C :: bm, ns := N, qualname := q, hasDict := true, slotNames := sn, subclasses := sub, abstract := ab, collection := col, hasDel := false } := by unfold PySem.W.clsIn; rw [hC] <;> rfl
  refine ⟨_, e, rfl, ?_⟩
  unfold PySem.W.excOver
  rw [e]
  show (C == C && PySem.W.excTail bmB bm) = true
  rw [hb, Bool.and_true]
  exact beq_self_eq_true C
end
end Np
set_option Elab.async false
set_option linter.all false
set_option maxRecDepth 100000
set_option maxHeartbeats 4000000
namespace Np
open PySem PySem.Spec PyProof.Rows L2
end Np
set_option Elab.async false
set_option linter.all false
set_option maxRecDepth 100000
set_option maxHeartbeats 4000000
namespace Np
open PySem PySem.Spec PyProof.Rows L2
def sortI (ns : List Int) : List Int := ns.mergeSort fun a b => decide (a ≤ b)
def gSortI : DD → Option DD
  | .lst ds => (ints? ds).map fun ns => .lst ((sortI ns).map DD.int)
  | _ => none
end Np
set_option Elab.async false
set_option linter.all false
set_option maxRecDepth 100000
set_option maxHeartbeats 4000000
namespace Np
open PySem PySem.Spec PyProof.Rows L2
def rLenO (C : Addr) (sp : Sp) : List V → Hp → VK → Prop := fun xs H Q => ∃ (a dx : Addr) (fs : List (Str × V)), xs = [.ref a] ∧ H a = some (.ins C dx fs) ∧ sp [.ref a] H (fun v H' => ∃ n : Int, v = .int n ∧ 0 ≤ n ∧ n < 2 ^ 63 ∧ Q (.int n) H') E0
theorem cr_lenO {X : Cx} {C f : Addr} {fd : FuncData} {ps : List Str} {sp : Sp} {k : Nat} (F : FnG X.prog X.w X.K X.mg X.base CX0 k f fd ps sp) (hgd : X.A.guards = some []) (hr : Room (k + 1) X.A) (hb : Binds X.K fd ps [])
    (hs : PySem.W.findIn X.K (.ref C) "__len__" = some (some (.ref f))) (hf : PySem.W.isFn X.K (.ref f) = true) : CallR X (.builtin "len") (rLenO C sp) := by
  intro pins s σ H xs us Q I r h
  obtain ⟨a, dx, fs, rfl, ha, hsp⟩ := h
  cases r with | cons r rr =>
  cases rr
  cases r
  obtain ⟨mA, J, _⟩ := ins_get I.hok ha
  obtain ⟨od, J, _⟩ := J.look
  obtain ⟨m, hF⟩ := I.fr
  refine PySem.W.len_K hF I.ok.mod.kin J hs hf ?_
  have e0 : Env0 X.prog X.w X.K X.mg X.base X.A.in1 X.stack s H := by
    have e := I.env0
    exact ⟨e.frames, e.mod, e.bs, e.bsz, e.funs, e.frf, e.hok, e.bare⟩
  have hl := F.len _ _ _ _ hsp
  have r2 : Vals [V.ref a] [Value.ref a] := .cons rfl .nil
  refine wpAny_call (codeAny_mono (F.run X.A.in1 X.stack s H ⟨[.ref a], []⟩ [.ref a] [.ref a] _ E0 hgd hr.in1 e0 (by
    have := hb s [.ref a] I.kIn (by simpa using hl)
    simpa using this) r2 hsp) fun r s' hq => ?_)
  cases r with
  | error e => exact hq.elim
  | ok fl =>
    cases fl with
    | ret u =>
      obtain ⟨z, H', I', rz, n, ez, n0, n1, q⟩ := I.after hq
      subst ez
      obtain ⟨t, rfl⟩ := rz
      exact ⟨⟨n0, n1⟩, .int n, H', I'.tok _, ⟨_, rfl⟩, q⟩
    | next => exact False.elim hq
    | brk => exact False.elim hq
    | cont => exact False.elim hq
section
variable {W : Wp} {Wx : L2.St → XK} {ta : TA} {δa : DA}
def dLenO (cls : Str) (F : Fn) (a : DA) : DE := fun ρ τ => (a ρ τ).bind fun xs τ1 => match xs with
  | [.obj C fs] => if C = cls then (F [.fr (.obj C fs)] τ1).nox.bind fun d τ2 => match d with
      | .int n => if 0 ≤ n ∧ n < 2 ^ 63 then .ok (.int n) τ2 else .no
      | _ => .no
    else .no
  | _ => .no
theorem dn_lenO {cls : Str} {C : Addr} {F : Fn} (hC : W.cm cls = C) (ha : DnA W Wx ta δa) : Dn W Wx (tCB (rLenO C (spP W 1 F)) ta) (dLenO cls F δa) := fun tp G H σ ρ τ Q E P =>
  ha _ _ _ _ _ _ _ E (P.bind fun as τ1 vs G1 H1 e1 E1 r1 P1 => by
    subst hC
    split at P1
    · rename_i C fs
      by_cases h : C = cls
      · subst h
        rw [if_pos rfl] at P1
        cases r1 with | cons r rs =>
        cases rs
        cases r with | obj hg rf =>
        refine ⟨_, _, _, rfl, E1.g _ _ hg, rfl, tp, G1, _, τ1, E1.g, .cons (show ArgR W tp G1 _ (.fr _) from Rp.obj hg rf) .nil, E1.t, ?_⟩
        revert P1
        cases F [.fr (.obj C fs)] τ1 with
        | ok d τ' =>
          intro P1 v G' H' e s t r
          cases d <;> first | exact P1.elim | skip
          rename_i n
          simp only [R.nox_ok, R.bind_ok] at P1
          by_cases hn : 0 ≤ n ∧ n < 2 ^ 63
          · rw [if_pos hn] at P1
            exact ⟨n, r.int_of, hn.1, hn.2, P1 _ G' H' e (E1.ext e s t) (.int n)⟩
          · rw [if_neg hn] at P1
            exact P1.elim
        | ex x τ' => exact fun P1 => P1.elim
        | no => exact fun P1 => P1.elim
      · rw [if_neg h] at P1
        exact P1.elim
    · exact P1.elim)
end
end Np
set_option Elab.async false
set_option linter.all false
set_option maxRecDepth 100000
set_option maxHeartbeats 4000000
namespace Np
open PySem PySem.Spec PyProof.Rows L2
end Np
set_option Elab.async false
set_option linter.all false
set_option maxRecDepth 100000
set_option maxHeartbeats 4000000
namespace Np
open PySem PySem.Spec PyProof.Rows L2
def tMakeG (C : Addr) (n m : Nat) (sp : Sp) (gV : List V → List V → List V) (E : L2.St → XK) (t tk : TA) : TE := fun σ H Q => t σ H fun vs H1 => tk σ H1 fun zs H2 => vs.length = n ∧ zs.length = m ∧
  ∀ x dx, H2 x = none → H2 dx = none → dx ≠ x → sp (gV (.ref x :: vs) zs) (upd (upd H2 dx (.own x)) x (.ins C dx [])) (fun v H3 => v = .non ∧ Q (.ref x) H3) (E σ)
/-- what a class brings that is made -/
def MkC (P : Program) (w : World) (K : PySem.W.Frag) (mg : Str → Option Value) (base : Heap) (CX : CXT) (k : Nat) (C : Addr) (ps : List Str) (sp : Sp) (n : Nat) (ks : List Str) (gV : List V → List V → List V) : Prop :=
  ∃ (f : Addr) (fd : FuncData), Mk K C f ∧ FnG P w K mg base CX k f fd ps sp ∧ KB K fd ps (n + 1) ks gV
section
variable {X : Cx} {CX : CXT} {k n : Nat} {f C : Addr} {fd : FuncData} {ps ks : List Str} {sp : Sp} {E : L2.St → XK} {x : Str} {p pos : Pos} {e : Expr} {es : List Expr} {kws : List Keyword} {t tk : TA} {g : List Value → List Value → List Value} {gV : List V → List V → List V}
theorem run_mkG {pins : List (Addr × Obj)} {σ : L2.St} {H : Hp} {s : Shared} {Q : VK} {us ws : List Value} {vs zs : List V} {E : XK} (h : MkC X.prog X.w X.K X.mg X.base CX k C ps sp n ks gV) (hgd : X.A.guards = some []) (hr : Room (k + 1) X.A)
    (hx : PassesAt CX X σ E) (I : L2.Inv X pins σ H s) (r : Vals vs us) (rz : Vals zs ws) (l1 : vs.length = n) (l2 : zs.length = ks.length)
    (h' : ∀ x dx, H x = none → H dx = none → dx ≠ x → sp (gV (.ref x :: vs) zs) (upd (upd H dx (.own x)) x (.ins C dx [])) (fun v H2 => v = .non ∧ Q (.ref x) H2) E) :
    wpAny (model X.prog X.w) X.A (call (.ref C) us (ks.zip ws)) (EP X pins σ Q) X.xe s := by
  obtain ⟨f, fd, M, F, g, hb⟩ := h
  have hq := h' (s.heap.objs.size + 1) s.heap.objs.size (I.hok.fresh (Nat.le_succ _)) (I.hok.fresh (Nat.le_refl _)) (Nat.ne_of_lt (Nat.lt_succ_self _))
  have I2 := Inv.made (C := C) I
  have r1 : Vals (V.ref (s.heap.objs.size + 1) :: vs) (Value.ref (s.heap.objs.size + 1) :: us) := .cons rfl r
  have r2 := hb.rel r1 rz
  have e1 : (Value.ref (s.heap.objs.size + 1) :: us).length = n + 1 := r1.length.symm.trans (congrArg Nat.succ l1)
  have e2 : ws.length = ks.length := rz.length.symm.trans l2
  refine wpAny_call (make_map (f := f) I.kIn M.makes M.init (beq_iff_eq.mp M.fn) (codeAny_mono (F.run _ X.stack _ _ ⟨Value.ref (s.heap.objs.size + 1) :: us, ks.zip ws⟩ (g (Value.ref (s.heap.objs.size + 1) :: us) ws) _ _ E hgd (hr.make C us (ks.zip ws))
    (I2.env0.make C us (ks.zip ws)) (hb.to _ (Value.ref (s.heap.objs.size + 1) :: us) ws I2.kIn e1 e2) r2 hq) fun r s' hq' => ?_))
  cases r with
  | error e => exact hx pins _ _ e s' I2 hq'
  | ok fl =>
    cases fl with
    | ret u =>
      obtain ⟨v, H', I3, rv, ev, q3⟩ := I2.after hq'
      subst ev
      exact ⟨rv, ⟨V.ref (s.heap.objs.size + 1), H', I3, rfl, q3⟩⟩
    | next => exact False.elim hq'
    | brk => exact False.elim hq'
    | cont => exact False.elim hq'
theorem MkC.kp (h : MkC X.prog X.w X.K X.mg X.base CX k C ps sp n ks gV) : PySem.W.keepIn X.K (.ref C) = true := by
  obtain ⟨f, fd, M, _⟩ := h
  exact M.kp
theorem pe_mkP (h : MkC X.prog X.w X.K X.mg X.base CX k C ps sp n [] gV) (hgd : X.A.guards = some []) (hr : Room (k + 1) X.A) (hm : X.mg x = some (.ref C)) (hx : ∀ σ, PassesAt CX X σ (E σ))
    (ha : PA X (e :: es) t) (hg : Gl X x := by rfl) (hdb : (x == ("__debug__" : Str)) = false := by decide) (he : starEach (e :: es) X.env = (false, eval e X.env) :: starEach es X.env := by rfl) (hpl : (backTo pos (starEach es X.env)).any (·.1) = false := by rfl) :
    PE X (.Call (.Name x p) (e :: es) [] pos) (tMakeG C n 0 sp gV E t tNil) := by
  refine ⟨fun pins s σ H Q I hh => ?_⟩
  refine wpAny_Call_Name_kw (ld_glob I hg hm ?_ hdb)
  refine PySem.W.callWith_K (h₀ := X.base) I.ok.mod.kin h.kp (L2.thn (ha.run pos pins s σ H _ I hh) fun us s1 hh1 => ?_) he hpl
  obtain ⟨vs, H1, I1, r, l1, l2, q⟩ := hh1
  exact ⟨I1.kIn, run_mkG (ks := []) (ws := []) (zs := []) h hgd hr (hx σ) I1 r .nil l1 rfl q⟩
end
abbrev FnI := Addr → List PV → TS' → R DD
open Classical in
noncomputable def allX (F : FnI) (as : List PV) (τ : TS') : R DD := if h : ∃ r, ∀ x, F x as τ = r then h.choose else .no
theorem allX_eq {F : FnI} {as : List PV} {τ : TS'} {r : R DD} (h : ∀ x, F x as τ = r) : allX F as τ = r := by
  have h' : ∃ r, ∀ x, F x as τ = r := ⟨r, h⟩
  unfold allX
  rw [dif_pos h']
  exact (h'.choose_spec 0).symm.trans (h 0)
theorem allX_at {F : FnI} {as : List PV} {τ : TS'} (x : Addr) : allX F as τ = .no ∨ F x as τ = allX F as τ := by
  unfold allX
  split
  · rename_i h
    exact .inr (h.choose_spec x)
  · exact .inl rfl
def IPost (W : Wp) (tp : Option Addr) (G : GH) (H : Hp) (x : Addr) (Q : VK) (E : XK) : R DD → Prop
  | .ok d τ' => ∀ G' H', Ext tp G H G' H' → SB W G' H' → TapeO W G' H' tp τ' → Rp W.K W.cm G' (.ref x) d → Q .non H'
  | .ex e τ' => ∀ d G' H', Ext tp G H G' H' → SB W G' H' → TapeO W G' H' tp τ' → ExR W G' H' e d → E (.ref (W.cm e.cls)) d H'
  | .no => False
def spI (W : Wp) (k : Nat) (cls : Str) (F : FnI) : Sp := fun vs H1 Q E => vs.length = k ∧ ∃ x dx H rest tp G as τ, vs = .ref x :: rest ∧ H x = none ∧ H dx = none ∧ dx ≠ x ∧ H1 = upd (upd H dx (.own x)) x (.ins (W.cm cls) dx []) ∧
  SB W G H ∧ Paired (ArgR W tp G) rest as ∧ TapeO W G H tp τ ∧ IPost W tp G H x Q E (F x as τ)
noncomputable def dMkP (k n m : Nat) (F : FnI) (g : List PV → List PV → List PV) (a b : DPs) : DE := fun ρ τ => (a ρ τ).bind fun as τ1 => (b ρ τ1).bind fun bs τ2 => if as.length = n ∧ bs.length = m ∧ (g as bs).length + 1 = k then allX F (g as bs) τ2 else .no
noncomputable def dMkN' (k n m : Nat) (F : FnI) (g : List PV → List PV → List PV) (a b : DPs) : DE := fun ρ τ => (a ρ τ).bind fun as τ1 => (b ρ τ1).bind fun bs τ2 => if as.length = n ∧ bs.length = m ∧ (g as bs).length + 1 = k then (allX F (g as bs) τ2).nox else .no
section
variable {W : Wp} {Wx : L2.St → XK} {tr tk : TA} {δr δk : DPs}
theorem dn_mkN' {k n m : Nat} {cls : Str} {C : Addr} {F : FnI} {dvs : List V} {dv : List PV} {ix : List Ix} (hC : W.cm cls = C) (hd : ∀ tp G, Paired (ArgR W tp G) dvs dv) (ha : DnPs W Wx tr δr) (hk : DnPs W Wx tk δk) :
    Dn W Wx (tMakeG C n m (spI W k cls F) (pickL dvs (.a 0 :: ix.map shIx)) W0 tr tk) (dMkN' k n m F (pickL dv ix) δr δk) := fun tp G H σ ρ τ Q E P =>
  ha _ _ _ _ _ _ _ E (P.bind fun as τ1 vs G1 H1 e1 E1 r1 P1 => hk _ _ _ _ _ _ _ E1 (P1.bind fun bs τ2 zs G2 H2 e2 E2 r2 P2 => by
    subst hC
    by_cases h : as.length = n ∧ bs.length = m ∧ (pickL dv ix as bs).length + 1 = k
    · rw [if_pos h] at P2
      have r1' := args_mono r1 e2.g
      have hp := pick_rel (R := ArgR W tp G2) (hd tp G2) r1' r2 ix
      refine ⟨by rw [Paired.len r1']; exact h.1, by rw [Paired.len r2]; exact h.2.1, fun x dx nx nd ne => ?_⟩
      rw [pick_self]
      refine ⟨by rw [List.length_cons, Paired.len hp]; exact h.2.2, x, dx, H2, _, tp, G2, _, τ2, rfl, nx, nd, ne, rfl, E2.g, hp, E2.t, ?_⟩
      rcases allX_at (F := F) (as := pickL dv ix as bs) (τ := τ2) x with z | z
      · rw [z] at P2
        exact P2.elim
      · rw [z]
        revert P2
        cases allX F (pickL dv ix as bs) τ2 with
        | ok d τ' => exact fun P2 G' H' e s t r => ⟨rfl, P2 (.ref x) G' H' e (E2.ext e s t) r⟩
        | ex y τ' => exact fun P2 => P2.elim
        | no => exact fun P2 => P2.elim
    · rw [if_neg h] at P2
      exact P2.elim))
end
def putD (f : Str) (v : DD) : List (Str × DD) → List (Str × DD)
  | [] => [(f, v)]
  | (g, x) :: r => if g = f then (g, v) :: r else (g, x) :: putD f v r
theorem RpF.put {K : PySem.W.Frag} {cm : CM} {G : GH} {f : Str} {v : V} {d : DD} (h : Rp K cm G v d) : ∀ {vs : List (Str × V)} {ds : List (Str × DD)}, RpF K cm G vs ds → RpF K cm G (putF f v vs) (putD f d ds)
  | _, _, .nil => .cons h .nil
  | _, _, .cons (k := k) a r => by
    unfold putF putD
    by_cases e : k = f
    · rw [if_pos e, if_pos e]; exact .cons h r
    · rw [if_neg e, if_neg e]; exact .cons a (RpF.put h r)
theorem RpF.len {K : PySem.W.Frag} {cm : CM} {G : GH} : ∀ {vs : List (Str × V)} {ds : List (Str × DD)}, RpF K cm G vs ds → vs.length = ds.length
  | _, _, .nil => rfl
  | _, _, .cons _ r => congrArg Nat.succ (RpF.len r)
abbrev DI' := PEnv → TS' → List (Str × DD) → R DD
structure EnvI (W : Wp) (cls : Str) (x dx : Addr) (tp0 : Option Addr) (G0 : GH) (H0 : Hp) (tp : Option Addr) (G : GH) (H : Hp) (σ : L2.St) (ρ : PEnv) (τ : TS') (vs : List (Str × V)) (fs : List (Str × DD)) : Prop where
  e : EnvS W tp0 G0 H0 tp G H σ ρ τ
  h0 : H0 x = none
  g : G x = none
  nt : NoM tp G x
  fr : FreeP W G H σ ρ x
  me : ρ[0]? = some (some (.fr (.raw x)))
  at' : H x = some (.ins (W.cm cls) dx vs)
  r : RpF W.K W.cm G vs fs
def PsI (W : Wp) (E : XK) (tp0 : Option Addr) (G0 : GH) (H0 : Hp) (x : Addr) (D : Ends) : R DD → Prop
  | .ok d τ => ∀ tp' G' H' σ', Ext tp0 G0 H0 G' H' → SB W G' H' → TapeO W G' H' tp' τ → (tp' = tp0 ∨ tp0 = none) → Rp W.K W.cm G' (.ref x) d → D.nx σ' H'
  | .ex e τ => ∀ d tp' G' H', Ext tp0 G0 H0 G' H' → SB W G' H' → TapeO W G' H' tp' τ → (tp' = tp0 ∨ tp0 = none) → ExR W G' H' e d → E (.ref (W.cm e.cls)) d H'
  | .no => False
def DnI' (W : Wp) (E : XK) (cls : Str) (t : L2.TS) (δ : DI') : Prop := ∀ x dx tp0 G0 H0 tp G H σ ρ τ vs fs D, EnvI W cls x dx tp0 G0 H0 tp G H σ ρ τ vs fs → PsI W E tp0 G0 H0 x D (δ ρ τ fs) → t D σ H
def dIEnd (cls : Str) : DI' := fun _ τ fs => .ok (.obj cls fs) τ
def dISet (f : Str) (e : DE) (r : DI') : DI' := fun ρ τ fs => (e ρ τ).bind fun d τ1 => if fs.length < 1000 then r ρ τ1 (putD f d fs) else .no
section
variable {W : Wp} {E : XK} {cls f : Str} {x dx : Addr} {tp0 tp : Option Addr} {G0 G : GH} {H0 H : Hp} {σ : L2.St} {ρ : PEnv} {τ : TS'} {vs : List (Str × V)} {fs : List (Str × DD)} {te : TE} {δe : DE} {t : L2.TS} {δ : DI'}
theorem EnvI.done (I : EnvI W cls x dx tp0 G0 H0 tp G H σ ρ τ vs fs) {D : Ends} (P : PsI W E tp0 G0 H0 x D (dIEnd cls ρ τ fs)) : D.nx σ H := by
  have sg : GS G (G.upd x (.ins (W.cm cls) dx vs)) := GS.new I.g
  exact P tp (G.upd x (.ins (W.cm cls) dx vs)) H σ (I.e.e.frzN I.h0 I.g) (I.e.v.g.frz I.at' rfl) (I.e.v.t.frz1 I.g I.nt) (I.e.t.imp id fun z => z.1) (.obj upd_same (I.r.mono sg))
theorem EnvI.set {τ1 : TS'} {G1 : GH} {H1 : Hp} {v : V} {d : DD} (I : EnvI W cls x dx tp0 G0 H0 tp G H σ ρ τ vs fs) (e1 : Ext tp G H G1 H1) (E1 : EnvV W tp G1 H1 σ ρ τ1) (r1 : Rp W.K W.cm G1 v d) :
    H1 x = some (.ins (W.cm cls) dx vs) ∧ σ[0]? = some (some (.ref x)) ∧ EnvI W cls x dx tp0 G0 H0 tp G1 (upd H1 x (.ins (W.cm cls) dx (putF f v vs))) σ ρ τ1 (putF f v vs) (putD f d fs) := by
  have hx1 := e1.h x _ I.nt rfl I.at'
  have nt1 := e1.nom I.nt (by rw [I.at']; simp)
  have gx1 : G1 x = none := e1.f x I.nt (by rw [I.at']; simp) I.g
  have s0 : σ[0]? = some (some (.ref x)) := by
    obtain ⟨u, h1, h2⟩ := Paired.getL E1.s I.me
    cases u with
    | none => exact h2.elim
    | some u => cases (show Rp W.K W.cm G1 u (.raw x) from h2); exact h1
  have fr1 : FreeP W G1 H1 σ ρ x := fun j c a F h1 h2 w => I.fr j c a F h1 h2 (I.e.v.backE e1 h1 h2 w)
  have E1s := I.e.step e1 E1
  have E2 := E1.mutH (o := .ins (W.cm cls) dx (putF f v vs)) gx1 nt1 ⟨_, hx1, rfl⟩ fr1
  have bk : ∀ {j : Nat} {c : OC} {a : Addr} {F : List Addr}, ρ[j]? = some (some (PV.ow c)) → σ[j]? = some (some (V.ref a)) → OwR W G1 (upd H1 x (.ins (W.cm cls) dx (putF f v vs))) a c F → OwR W G1 H1 a c F := fun {j c a F} h1 h2 w => by
    obtain ⟨F0, w0, _⟩ := E1.own h1 h2
    have w1 : OwR W G1 (upd H1 x (.ins (W.cm cls) dx (putF f v vs))) a c F0 := w0.keep (GS.refl _) fun q hq u hu => by
      rw [upd_ne (fun z => fr1 _ _ _ _ h1 h2 w0 (by rw [← z]; exact hq))]; exact hu
    rw [w.uniq w1]
    exact w0
  refine ⟨hx1, s0, ⟨E2, E1s.e.mut I.h0, fun j c a F h1 h2 w => E1s.o j c a F h1 h2 (bk h1 h2 w), I.e.t⟩, I.h0, gx1, nt1, fun j c a F h1 h2 w => fr1 j c a F h1 h2 (bk h1 h2 w), I.me, upd_same, RpF.put r1 (I.r.mono e1.g)⟩
theorem PsI.ev {D : Ends} {Q : VK} {k : DD → TS' → R DD} (I : EnvI W cls x dx tp0 G0 H0 tp G H σ ρ τ vs fs) (P : PsI W E tp0 G0 H0 x D ((δe ρ τ).bind k))
    (h : ∀ d τ1 v G1 H1, Ext tp G H G1 H1 → EnvV W tp G1 H1 σ ρ τ1 → Rp W.K W.cm G1 v d → PsI W E tp0 G0 H0 x D (k d τ1) → Q v H1) : Pg W (fun _ => E) (rE W) tp σ ρ G H Q (δe ρ τ) := by
  revert P
  cases δe ρ τ with
  | ok d τ1 => exact fun P v G1 H1 e1 E1 r1 => h d τ1 v G1 H1 e1 E1 r1 P
  | ex y τ1 => exact fun P d G1 H1 e1 E1 hx => P d tp G1 H1 (I.e.step e1 E1).e E1.g E1.t (I.e.t.imp id fun z => z.1) hx
  | no => exact fun P => P
theorem di_set (hC : Cls W.K (W.cm cls)) (hn : NoAttr W.K (W.cm cls) f) (he : Dn W (fun _ => E) te δe) (ht : DnI' W E cls t δ) : DnI' W E cls (tSeq (sFld W.K (tVar 0) te f) t) (dISet f δe δ) := fun x dx tp0 G0 H0 tp G H σ ρ τ vs fs D I P =>
  he _ _ _ _ _ _ _ I.e.v (P.ev I fun d τ1 v G1 H1 e1 E1 r1 P1 => by
    by_cases hl : fs.length < 1000
    · rw [if_pos hl] at P1
      obtain ⟨a1, a2, a3⟩ := I.set (f := f) e1 E1 r1
      exact ⟨_, a2, x, _, dx, vs, rfl, a1, hC, hn, by rw [RpF.len I.r]; exact hl, ht _ _ _ _ _ _ _ _ _ _ _ _ _ _ a3 P1⟩
    · rw [if_neg hl] at P1
      exact P1.elim)
theorem di_last (hC : Cls W.K (W.cm cls)) (hn : NoAttr W.K (W.cm cls) f) (he : Dn W (fun _ => E) te δe) : DnI' W E cls (sFld W.K (tVar 0) te f) (dISet f δe (dIEnd cls)) := fun x dx tp0 G0 H0 tp G H σ ρ τ vs fs D I P =>
  he _ _ _ _ _ _ _ I.e.v (P.ev I fun d τ1 v G1 H1 e1 E1 r1 P1 => by
    by_cases hl : fs.length < 1000
    · rw [if_pos hl] at P1
      obtain ⟨a1, a2, a3⟩ := I.set (f := f) e1 E1 r1
      exact ⟨_, a2, x, _, dx, vs, rfl, a1, hC, hn, by rw [RpF.len I.r]; exact hl, a3.done P1⟩
    · rw [if_neg hl] at P1
      exact P1.elim)
end
def fixR (τ : TS') : R DD → R DD
  | .ok d τ' => .ok d (fixT τ τ')
  | .ex x τ' => .ex x (fixT τ τ')
  | .no => .no
/-- what stands ahead of the first field, then the fields -/
def bodyI2 (tail : DI') (x : Addr) (τ : TS') (ρ : PEnv) (τ' : TS') : Option (Option PV) → R DD
  | some (some (.fr (.raw y))) => if y = x then fixR τ (tail ρ τ' []) else .no
  | _ => .no
def bodyI (n : Nat) (pre : DS) (tail : DI') : FnI := fun x as τ => match pre (startP n (.fr (.raw x) :: as)) τ with
  | .ok (.nx ρ) τ' => bodyI2 tail x τ ρ τ' ρ[0]?
  | .ok (.xc e _) τ' => .ex e (fixT τ τ')
  | _ => .no
theorem TapeO.newH {W : Wp} {tp : Option Addr} {G : GH} {H : Hp} {τ : TS'} {p : Addr} {o : HO} (t : TapeO W G H tp τ) (n : H p = none) : TapeO W G (upd H p o) tp τ := t.ext (Ext.newH n)
section
variable {W : Wp} {E : XK} {cls : Str} {N : List Str} {k : Nat} {t u : L2.TS} {δ : DI'} {pre : DS} {vs : List V} {Q : VK} {H : Hp}
theorem start_I {x dx : Addr} {G : GH} {H0 : Hp} {tp : Option Addr} {rest : List V} {as : List PV} {τ : TS'} (nx : H0 x = none) (nd : H0 dx = none) (ne : dx ≠ x) (s : SB W G H0) (a : Paired (ArgR W tp G) rest as) (tt : TapeO W G H0 tp τ) :
    EnvS W tp G (upd (upd H0 dx (.own x)) x (.ins (W.cm cls) dx [])) tp G (upd (upd H0 dx (.own x)) x (.ins (W.cm cls) dx [])) (L2.start N (.ref x :: rest)) (startP N.length (.fr (.raw x) :: as)) τ ∧ Ext tp G H0 G (upd (upd H0 dx (.own x)) x (.ins (W.cm cls) dx [])) := by
  have nx' : upd H0 dx (.own x) x = none := by rw [upd_ne (Ne.symm ne)]; exact nx
  exact ⟨start_env (N := N) ((s.trans (same_new nd)).trans (same_new nx')) (.cons (.raw x) a) ((tt.newH nd).newH nx'), (Ext.newH nd).trans (Ext.newH nx')⟩
theorem rebase {x dx : Addr} {G G' : GH} {H0 H' : Hp} {tp tp' : Option Addr} {σ : L2.St} {ρ : PEnv} {τ : TS'} (nx : H0 x = none) (nd : H0 dx = none) (ne : dx ≠ x) (s : SB W G H0) (nt : NoM tp G x) (me : ρ[0]? = some (some (.fr (.raw x))))
    (E1 : EnvS W tp G (upd (upd H0 dx (.own x)) x (.ins (W.cm cls) dx [])) tp' G' H' σ ρ τ) : EnvI W cls x dx tp G H0 tp' G' H' σ ρ τ [] [] := by
  have nx' : upd H0 dx (.own x) x = none := by rw [upd_ne (Ne.symm ne)]; exact nx
  have e0 : Ext tp G H0 G (upd (upd H0 dx (.own x)) x (.ins (W.cm cls) dx [])) := (Ext.newH nd).trans (Ext.newH nx')
  have old : ∀ p, upd (upd H0 dx (.own x)) x (.ins (W.cm cls) dx []) p = none → H0 p = none ∧ p ≠ x := fun p hp => by
    have h1 : p ≠ x := fun z => by rw [z, upd_same] at hp; cases hp
    rw [upd_ne h1] at hp
    have h2 : p ≠ dx := fun z => by rw [z, upd_same] at hp; cases hp
    rw [upd_ne h2] at hp
    exact ⟨hp, h1⟩
  have gx : G x = none := s.free nx
  refine ⟨⟨E1.v, e0.trans E1.e, fun j c a F h1 h2 w p hp => (old p (E1.o j c a F h1 h2 w p hp)).1, E1.t⟩, nx, E1.e.f x nt (by rw [upd_same]; simp) gx, ?_, fun j c a F h1 h2 w hp => (old x (E1.o j c a F h1 h2 w x hp)).2 rfl, me, E1.e.h x _ nt rfl upd_same, .nil⟩
  rcases E1.t with z | ⟨_, z⟩
  · rw [z]; exact E1.e.nom nt (by rw [upd_same]; simp)
  · exact z.elim
theorem fixI {x : Addr} {G : GH} {H0 : Hp} {tp : Option Addr} {τ : TS'} {r : R DD} (tt : TapeO W G H0 tp τ) (P : IPost W tp G H0 x Q E (fixR τ r)) : PsI W E tp G H0 x { nx := fun _ H' => Q .non H', rt := Q } r := by
  cases r with
  | ok d τ' => exact fun tp' G' H' σ' e s t q r => P G' H' e s (fix_tape tt t q) r
  | ex y τ' => exact fun d tp' G' H' e s t q hx => P d G' H' e s (fix_tape tt t q) hx
  | no => exact P
theorem body_okI (hp : DnS W (fun _ => E) t pre) (ht : DnI' W E cls u δ) (h : spI W k cls (bodyI N.length pre δ) vs H Q E) : tSeq t u { nx := fun _ H' => Q .non H', rt := Q } (L2.start N vs) H := by
  obtain ⟨_, x, dx, H0, rest, tp, G, as, τ, rfl, nx, nd, ne, rfl, s, a, tt, P⟩ := h
  obtain ⟨E1, e0⟩ := start_I (W := W) (cls := cls) (N := N) nx nd ne s a tt
  refine hp _ _ _ _ _ _ _ _ _ _ E1 ?_
  have nt : NoM tp G x := tt.noM nx
  unfold bodyI at P
  revert P
  match pre (startP N.length (.fr (.raw x) :: as)) τ with
  | .ok (.nx ρ) τ' =>
    intro P tp' G' H' σ' s' E'
    dsimp only [bodyI2] at P
    split at P
    · rename_i y me
      by_cases hy : y = x
      · subst hy
        rw [if_pos rfl] at P
        exact ht _ _ _ _ _ _ _ _ _ _ _ _ _ _ (rebase nx nd ne s nt me E') (fixI tt P)
      · rw [if_neg hy] at P
        exact P.elim
    · exact P.elim
  | .ok (.xc y ρ) τ' => exact fun P d tp' G' H' σ' s' E' hx => P d G' H' (e0.trans E'.e) E'.v.g (fix_tape tt E'.v.t (E'.t.imp id fun z => z.1)) hx
  | .ok (.rt d) τ' => exact fun h => h.elim
  | .ok (.bk ρ) τ' => exact fun h => h.elim
  | .ok (.ro ρ) τ' => exact fun h => h.elim
  | .ok (.ct ρ) τ' => exact fun h => h.elim
  | .ex x τ' => exact fun h => h.elim
  | .no => exact fun h => h.elim
end
end Np
set_option Elab.async false
set_option linter.all false
set_option maxRecDepth 100000
set_option maxHeartbeats 4000000
namespace Np
open PySem PySem.Spec PyProof.Rows L2
def tMethE (C : Addr) (m : Str) (sp : Sp) (E : L2.St → XK) (ta : TE) (t : TA) : TE := fun σ H Q => ta σ H fun x H1 => ∃ a dx fs, x = .ref a ∧ H1 a = some (.ins C dx fs) ∧ fs.lookup m = none ∧ t σ H1 fun vs H2 => sp (x :: vs) H2 Q (E σ)
/-- what a class brings with a method -/
def MeC (P : Program) (w : World) (K : PySem.W.Frag) (mg : Str → Option Value) (base : Heap) (CX : CXT) (k : Nat) (C : Addr) (m : Str) (ps : List Str) (sp : Sp) : Prop :=
  ∃ (f : Addr) (fd : FuncData), Meth K C m f ∧ FnG P w K mg base CX k f fd ps sp ∧ Binds K fd ps []
section
variable {X : Cx} {CX : CXT} {k : Nat} {C : Addr} {ps : List Str} {sp : Sp} {E : L2.St → XK} {m : Str} {pos apos : Pos} {e o : Expr} {es : List Expr} {ta : TE} {t : TA}
theorem pe_mG {pl : Sem Bool} (h : MeC X.prog X.w X.K X.mg X.base CX k C m ps sp) (c : Cls X.K C) (hgd : X.A.guards = some []) (hr : Room k X.A) (hx : ∀ σ, PassesAt CX X σ (E σ)) (he : PE X o ta) (ha : PA X (e :: es) t)
    (hst : starEach (e :: es) X.env = (false, eval e X.env) :: starEach es X.env := by rfl) (hpl : (backTo pos (starEach es X.env)).any (·.1) = false := by rfl)
    (ht : eval (.Call (.Attribute o m apos) (e :: es) [] pos) X.env = (do
      let ov ← eval o X.env
      standAt apos.atName
      let (f, first) ← holding [ov] (getMethod ov m pl)
      callWith pos f first (backTo pos (starEach (e :: es) X.env)) (backToKw pos (keywordEach [] X.env))) := by rfl) :
    PE X (.Call (.Attribute o m apos) (e :: es) [] pos) (tMethE C m sp E ta t) := by
  obtain ⟨f, fd, hm, F, hb⟩ := h
  refine ⟨fun pins s σ H Q I h => ?_⟩
  refine PySem.W.methodCall_KW (pl := pl) (L2.thn (he.run pins s σ H _ I h) fun u s1 ⟨x, H1, I1, rx, a, dx, fs, ex, ea, l, q⟩ => ?_) ht
  subst ex
  obtain rfl : u = Value.ref a := rx
  refine getmeth_ok I1 ea c hm l ?_
  refine PySem.W.callWith_K (first := [.ref a]) (h₀ := X.base) I.ok.mod.kin hm.kp (L2.thn (ha.run pos pins s1 σ H1 _ I1 q) fun us s2 ⟨vs, H2, I2, r, q2⟩ => ⟨I2.kIn, ?_⟩) hst hpl
  exact run_gw (us := .ref a :: us) (vs := .ref a :: vs) (dvs := []) (ds := []) F hgd hr hb .nil (hx σ) I2 (.cons rfl r) (by rw [List.append_nil]; exact q2)
theorem pe_mG0 {pl : Sem Bool} (h : MeC X.prog X.w X.K X.mg X.base CX k C m ps sp) (c : Cls X.K C) (hgd : X.A.guards = some []) (hr : Room k X.A) (hx : ∀ σ, PassesAt CX X σ (E σ)) (he : PE X o ta)
    (ht : eval (.Call (.Attribute o m apos) [] [] pos) X.env = (do
      let ov ← eval o X.env
      standAt apos.atName
      let (f, first) ← holding [ov] (getMethod ov m pl)
      callWith pos f first (backTo pos (starEach [] X.env)) (backToKw pos (keywordEach [] X.env))) := by rfl) :
    PE X (.Call (.Attribute o m apos) [] [] pos) (tMethE C m sp E ta tNil) := by
  obtain ⟨f, fd, hm, F, hb⟩ := h
  refine ⟨fun pins s σ H Q I h => ?_⟩
  refine PySem.W.methodCall_KW (pl := pl) (L2.thn (he.run pins s σ H _ I h) fun u s1 ⟨x, H1, I1, rx, a, dx, fs, ex, ea, l, q⟩ => ?_) ht
  subst ex
  obtain rfl : u = Value.ref a := rx
  refine getmeth_ok I1 ea c hm l ?_
  exact PySem.W.callWith_K0 (first := [.ref a]) I1.kIn hm.kp (run_gw (us := [.ref a]) (vs := [.ref a]) (dvs := []) (ds := []) F hgd hr hb .nil (hx σ) I1 (.cons rfl .nil) q)
end
def dMethN (k : Nat) (cls m : Str) (F : Fn) (a : DE) (r : DPs) : DE := fun ρ τ => (a ρ τ).bind fun x τ1 => match x with
  | .obj C fs => if C = cls ∧ fs.lookup m = none then (r ρ τ1).bind fun as τ2 => if as.length + 1 = k then (F (.fr (.obj C fs) :: as) τ2).nox else .no
    else .no
  | _ => .no
section
variable {W : Wp} {Wx : L2.St → XK} {ta : TE} {tr : TA} {δa : DE} {δr : DPs}
theorem RpF.lookN {K : PySem.W.Frag} {cm : CM} {G : GH} {f : Str} : ∀ {vs : List (Str × V)} {ds : List (Str × DD)}, RpF K cm G vs ds → ds.lookup f = none → vs.lookup f = none
  | _, _, .nil, _ => rfl
  | _, _, .cons (k := k) a r, h => by
    rw [List.lookup_cons] at h ⊢
    by_cases e : (f == k) = true
    · rw [e] at h; cases h
    · have e' : (f == k) = false := by simpa using e
      rw [e'] at h ⊢
      exact RpF.lookN r h
end
/-- what a class brings with a special method of its own -/
def SpC (P : Program) (w : World) (K : PySem.W.Frag) (mg : Str → Option Value) (base : Heap) (k : Nat) (C : Addr) (m : Str) (ps : List Str) (sp : Sp) : Prop :=
  ∃ (f : Addr) (fd : FuncData), FnG P w K mg base CX0 k f fd ps sp ∧ Binds K fd ps [] ∧ PySem.W.findIn K (.ref C) m = some (some (.ref f)) ∧ PySem.W.isFn K (.ref f) = true
theorem cr_lenC {X : Cx} {C : Addr} {ps : List Str} {sp : Sp} {k : Nat} (h : SpC X.prog X.w X.K X.mg X.base k C "__len__" ps sp) (hgd : X.A.guards = some []) (hr : Room (k + 1) X.A) : CallR X (.builtin "len") (rLenO C sp) := by
  obtain ⟨f, fd, F, hb, hs, hf⟩ := h
  exact cr_lenO F hgd hr hb hs hf
section
variable {W : Wp} {Wx : L2.St → XK} {ta : TA} {δa : DA}
def dStrO (cls : Str) (F : Fn) (a : DA) : DE := fun ρ τ => (a ρ τ).bind fun xs τ1 => match xs with
  | [.obj C fs] => if C = cls then (F [.fr (.obj C fs)] τ1).nox.bind fun d τ2 => match d with
      | .str z => .ok (.str z) τ2
      | _ => .no
    else .no
  | _ => .no
end
end Np
set_option Elab.async false
set_option linter.all false
set_option maxRecDepth 100000
set_option maxHeartbeats 4000000
namespace Np
open PySem PySem.Spec PyProof.Rows L2
/-- y may stand beside an object of the class -/
def sideY (cls : Str) : DD → Bool
  | .obj C _ => decide (C = cls)
  | .exc _ _ => false
  | .raw _ => false
  | .ptr _ => false
  | .tux _ => false
  | _ => true
def dEqO (neg : Bool) (cls : Str) (F : Fn) (a b : DE) : DE := fun ρ τ => (a ρ τ).bind fun x τ1 => (b ρ τ1).bind fun y τ2 => match x with
  | .obj C fs => if C = cls ∧ sideY cls y = true then (F [.fr (.obj C fs), .fr y] τ2).nox.bind fun d τ3 => match d with
      | .bl r => .ok (.bl (xor neg r)) τ3
      | _ => .no
    else .no
  | _ => .no
section
variable {W : Wp} {Wx : L2.St → XK} {ta tb : TE} {δa δb : DE}
/-- isinstance(x, cls) of things of all kinds -/
def gIsO (cls : Str) : DD → Option DD
  | .obj C _ => if C = cls then some (.bl true) else none
  | .exc _ _ => none
  | .raw _ => none
  | .ptr _ => none
  | .tux _ => none
  | _ => some (.bl false)
end
end Np
set_option Elab.async false
set_option linter.all false
set_option maxRecDepth 100000
set_option maxHeartbeats 4000000
namespace Np
open PySem PySem.Spec PyProof.Rows L2
end Np
set_option Elab.async false
set_option linter.all false
set_option maxRecDepth 100000
set_option maxHeartbeats 4000000
namespace Np
open PySem PySem.Spec PyProof.Rows L2
def canSame (d x : DD) : Prop := ∃ (K : PySem.W.Frag) (cm : CM) (G : GH) (v : V), Rp K cm G v d ∧ Rp K cm G v x
def toB (r : R DD) : R Bool := r.nox.bind fun d τ => match d with
  | .bl b => .ok b τ
  | _ => .no
/-- a thing that declines == with an object -/
def thing : DD → Bool
  | .non => true
  | .int _ => true
  | .str _ => true
  | .lst _ => true
  | .tup _ => true
  | _ => false
open Classical in
/-- item == x inside a list -/
noncomputable def eq1D (cls : Str) (F : Fn) (d x : DD) (τ : TS') : R Bool := match d with
  | .obj C fs => if C = cls then (toB (F [.fr (.obj C fs), .fr x] τ)).bind fun b τ' => if (canSame (.obj C fs) x → b = true ∧ τ' = τ) then .ok b τ' else .no
    else .no
  | d => if thing d = true then toB (F [.fr x, .fr d] τ) else .no
noncomputable def inD (cls : Str) (F : Fn) (x : DD) : List DD → TS' → R Bool
  | [], τ => .ok false τ
  | d :: ds, τ => (eq1D cls F d x τ).bind fun b τ' => if b = true then .ok true τ' else inD cls F x ds τ'
noncomputable def dInO (neg : Bool) (cls : Str) (F : Fn) (a b : DE) : DE := fun ρ τ => (a ρ τ).bind fun x τ1 => (b ρ τ1).bind fun y τ2 => match x, y with
  | .obj C fs, .lst ds => if C = cls then (inD cls F (.obj C fs) ds τ2).bind fun r τ3 => .ok (.bl (xor neg r)) τ3 else .no
  | _, _ => .no
def dEqR (cls : Str) (F : Fn) (a b : DE) : DE := fun ρ τ => (a ρ τ).bind fun y τ1 => (b ρ τ1).bind fun x τ2 => match x with
  | .obj C fs => if C = cls ∧ thing y = true then (toB (F [.fr (.obj C fs), .fr y] τ2)).bind fun r τ3 => .ok (.bl r) τ3 else .no
  | _ => .no
end Np
set_option Elab.async false
set_option linter.all false
set_option maxRecDepth 100000
set_option maxHeartbeats 4000000
namespace Np
open PySem PySem.Spec PyProof.Rows L2
section
variable {W : Wp} {Wx : L2.St → XK} {ta : TA} {δa : DA}
def dBoolO (cls : Str) (F : Fn) (a : DA) : DE := fun ρ τ => (a ρ τ).bind fun xs τ1 => match xs with
  | [.obj C fs] => if C = cls then (F [.fr (.obj C fs)] τ1).nox.bind fun d τ2 => match d with
      | .int n => if 0 ≤ n ∧ n < 2 ^ 63 then .ok (.bl (n != 0)) τ2 else .no
      | _ => .no
    else .no
  | _ => .no
end
end Np
set_option Elab.async false
set_option linter.all false
set_option maxRecDepth 100000
set_option maxHeartbeats 4000000
namespace Np
open PySem PySem.Spec PyProof.Rows L2
def dMethON (k : Nat) (cls m : Str) (F : FnO) (a : DE) (r : DPs) : PEnv → TS' → R OC := fun ρ τ => (a ρ τ).bind fun x τ1 => match x with
  | .obj C fs => if C = cls ∧ fs.lookup m = none then (r ρ τ1).bind fun as τ2 => if as.length + 1 = k then (F (.fr (.obj C fs) :: as) τ2).nox else .no
    else .no
  | _ => .no
section
variable {W : Wp} {Wx : L2.St → XK} {ta te : TE} {tr : TA} {δa δe : DE} {δr : DPs} {φ : PEnv → TS' → R OC}
theorem df_methN {k : Nat} {cls m : Str} {C : Addr} {F : FnO} (hC : W.cm cls = C) (ha : Dn W Wx ta δa) (hr : DnPs W Wx tr δr) : DnF W Wx (tMethE C m (spO W k F) W0 ta tr) (dMethON k cls m F δa δr) := fun tp G H σ ρ τ Q E P =>
  ha _ _ _ _ _ _ _ E (P.bind fun x τ1 v G1 H1 e1 E1 r1 P1 => by
    subst hC
    split at P1
    · rename_i C fs
      by_cases h : C = cls ∧ fs.lookup m = none
      · rw [if_pos h] at P1
        obtain ⟨rfl, hl⟩ := h
        cases r1 with | obj hg rf =>
        refine ⟨_, _, _, rfl, E1.g _ _ hg, rf.lookN hl, hr _ _ _ _ _ _ _ E1 (P1.bind fun as τ2 vs G2 H2 e2 E2 r2 P2 => ?_)⟩
        by_cases hk : as.length + 1 = k
        · rw [if_pos hk] at P2
          refine ⟨by rw [List.length_cons, Paired.len r2]; exact hk, tp, G2, _, τ2, E2.g, .cons (show ArgR W tp G2 _ (.fr _) from (Rp.obj hg rf).mono e2.g) r2, E2.t, ?_⟩
          revert P2
          cases F (.fr (.obj C fs) :: as) τ2 with
          | ok c τ' => exact fun P1 p F G' H' e s t w fr => P1 p F G' H' e (E2.ext e s t) w fr
          | ex x τ' => exact fun P1 => P1.elim
          | no => exact fun P1 => P1.elim
        · rw [if_neg hk] at P2
          exact P2.elim
      · rw [if_neg h] at P1
        exact P1.elim
    · exact P1.elim)
/-- f(..).append(c): a new list, changed and let go -/
def dDropApp (φ : PEnv → TS' → R OC) : DS := fun ρ τ => stE (φ ρ τ) ρ fun c τ1 => match c with
  | .lst xs => if xs.length < sizeLine then .ok (.nx ρ) τ1 else .no
  | _ => .no
end
theorem ps_fldK {X : Cx} (K : PySem.W.Frag) {o value : Expr} {f : Str} {pos pos' : Pos} {ta tv : TE} (ha : PE X o ta) (hv : PE X value tv) (hs : swapsWith value (some (.Attribute o f pos')) pos.line X.env = pure false) (hK : X.K = K := by rfl) : PS X (.Assign [.Attribute o f pos'] value pos) (sFld K ta tv f) := by subst hK; exact ps_fld ha hv hs
end Np
set_option Elab.async false
set_option linter.all false
set_option maxRecDepth 100000
set_option maxHeartbeats 4000000
namespace Np
open PySem PySem.Spec PyProof.Rows L2
def gLenRg1 : DD → Option DD
  | .int n => if (n.toNat : Int) < 2 ^ 63 then some (.int n.toNat) else none
  | _ => none
section
variable {W : Wp} {Wx : L2.St → XK} {ta : TE} {δa : DE}
def gIsB : DD → DD → Option DD
  | .bl a, .bl b => some (.bl (decide (a = b)))
  | _, _ => none
def gSlT : DD → Option Int → Option Int → Option DD
  | .tup ds, lo, hi => some (.tup (cutL ds lo hi))
  | _, _, _ => none
theorem cutL_whole {ds : List DD} {lo hi : Option Int} (h : HT.sIx ds.length 0 lo = 0 ∧ HT.sIx ds.length ds.length hi = ds.length) : cutL ds lo hi = ds := by
  unfold cutL
  rw [h.1, h.2, List.drop_zero, Nat.sub_zero, List.take_length]
theorem sd_tupA : SlD W (rSlA W.K) gSlT := by
  intro G H x a c lo hi Q s ra e k
  cases ra <;> first | (cases e; done) | skip
  rename_i p xs ds h r
  cases e
  refine ⟨p, xs, rfl, SqT.of (s _ _ h), fun hw => ?_, fun _ p n => k _ _ _ (Ext.new n s) (s.both n) (rp_newT (s.free n) (r.cut lo hi))⟩
  rw [r.length] at hw
  have e := cutL_whole hw
  rw [e] at k
  exact k _ G H ext_n s (.tup h r)
end
theorem sl_tupAK {X : Cx} (K : PySem.W.Frag) (h : X.K = K := by rfl) : SlR X (rSlA K) := by subst h; exact sl_tupA
end Np
set_option Elab.async false
set_option linter.all false
set_option maxRecDepth 100000
set_option maxHeartbeats 4000000
namespace Np
open PySem PySem.Spec PyProof.Rows L2
section
variable {W : Wp} {Wx : L2.St → XK} {tr tk : TA} {δr δk : DA}
def dIZipS (a b : DA) : DI := fun ρ τ => (a ρ τ).bind fun x τ1 => (b ρ τ1).bind fun y τ2 => match x, y with
  | [.lst ds, .lst es], [.bl true] => if ds.length = es.length then .ok (zipD ds es) τ2 else .no
  | _, _ => .no
end
end Np
set_option Elab.async false
set_option linter.all false
set_option maxRecDepth 100000
set_option maxHeartbeats 4000000
namespace Np
open PySem PySem.Spec PyProof.Rows L2
section
variable {W : Wp} {Wx : L2.St → XK} {te : TE} {φ : PEnv → TS' → R OC} {δa : DE}
def dDropClr (φ : PEnv → TS' → R OC) : DS := fun ρ τ => stE (φ ρ τ) ρ fun c τ1 => match c with
  | .lst _ => .ok (.nx ρ) τ1
  | _ => .no
end
section
variable {W : Wp} {Wx : L2.St → XK} {ta : TE} {δa : DE}
def dTruO (cls : Str) (F : Fn) (a : DE) : DT := fun ρ τ => (a ρ τ).bind fun x τ1 => match x with
  | .obj C fs => if C = cls then (F [.fr (.obj C fs)] τ1).nox.bind fun d τ2 => match d with
      | .int n => if 0 ≤ n ∧ n < 2 ^ 63 then .ok (n != 0) τ2 else .no
      | _ => .no
    else .no
  | _ => .no
end
end Np
set_option Elab.async false
set_option linter.all false
set_option maxRecDepth 100000
set_option maxHeartbeats 4000000
namespace Np
open PySem PySem.Spec PyProof.Rows L2
open Classical in
noncomputable def mns (G : GH) (B : Addr → Prop) : GH := ⟨fun p => if B p then none else G p, G.ads⟩
theorem mns_out {G : GH} {B : Addr → Prop} {p : Addr} (h : ¬ B p) : (mns G B).hp p = G.hp p := if_neg h
theorem mns_in {G : GH} {B : Addr → Prop} {p : Addr} (h : B p) : (mns G B).hp p = none := if_pos h
theorem mns_same {G G' : GH} {B : Addr → Prop} (s : GS G G') : GS (mns G B) (mns G' B) := ⟨fun p o h => by
  by_cases z : B p
  · rw [mns_in z] at h; cases h
  · rw [mns_out z] at h ⊢; exact s p o h, s.a⟩
abbrev OldB (H0 : Hp) (B : Addr → Prop) : Prop := ∀ p, B p → H0 p ≠ none
def AvF (W : Wp) (H0 : Hp) (G : GH) (vs : List (Str × V)) (fs : List (Str × DD)) : Prop := ∀ B, OldB H0 B → RpF W.K W.cm (mns G B) vs fs
def PsIS (W : Wp) (E : XK) (tp0 : Option Addr) (G0 : GH) (H0 : Hp) (x : Addr) (D : Ends) : R DD → Prop
  | .ok d τ => ∀ tp' G' H' σ', Ext tp0 G0 H0 G' H' → SB W G' H' → TapeO W G' H' tp' τ → (tp' = tp0 ∨ tp0 = none) → Rp W.K W.cm G' (.ref x) d → (∀ B, OldB H0 B → Rp W.K W.cm (mns G' B) (.ref x) d) → D.nx σ' H'
  | .ex e τ => ∀ d tp' G' H', Ext tp0 G0 H0 G' H' → SB W G' H' → TapeO W G' H' tp' τ → (tp' = tp0 ∨ tp0 = none) → ExR W G' H' e d → E (.ref (W.cm e.cls)) d H'
  | .no => False
def dISetV (f : Str) (e : DE) (r : DI') : DI' := fun ρ τ fs => (e ρ τ).bind fun d τ1 => if flatD d = true ∧ fs.length < 1000 then r ρ τ1 (putD f d fs) else .no
def dISetL (f : Str) (e : PEnv → TS' → R OC) (r : DI') : DI' := fun ρ τ fs => (e ρ τ).bind fun c τ1 => match c with
  | .lst ys => if ys.all flatD = true ∧ fs.length < 1000 then r ρ τ1 (putD f (.lst ys) fs) else .no
  | _ => .no
section
variable {W : Wp} {E : XK} {cls f : Str} {x dx : Addr} {tp0 tp : Option Addr} {G0 G : GH} {H0 H : Hp} {σ : L2.St} {ρ : PEnv} {τ : TS'} {vs : List (Str × V)} {fs : List (Str × DD)} {te : TE} {δe : DE} {t : L2.TS} {δ : DI'}
theorem AvF.done (I : EnvI W cls x dx tp0 G0 H0 tp G H σ ρ τ vs fs) (av : AvF W H0 G vs fs) {D : Ends} (P : PsIS W E tp0 G0 H0 x D (dIEnd cls ρ τ fs)) : D.nx σ H := by
  have sg : GS G (G.upd x (.ins (W.cm cls) dx vs)) := GS.new I.g
  refine P tp (G.upd x (.ins (W.cm cls) dx vs)) H σ (I.e.e.frzN I.h0 I.g) (I.e.v.g.frz I.at' rfl) (I.e.v.t.frz1 I.g I.nt) (I.e.t.imp id fun z => z.1) (.obj upd_same (I.r.mono sg)) (fun B hB => ?_)
  · have nb : ¬ B x := fun z => hB x z I.h0
    exact .obj (by rw [mns_out nb]; exact upd_same) ((av B hB).mono (mns_same sg))
theorem PsIS.ev {D : Ends} {Q : VK} {k : DD → TS' → R DD} (I : EnvI W cls x dx tp0 G0 H0 tp G H σ ρ τ vs fs) (P : PsIS W E tp0 G0 H0 x D ((δe ρ τ).bind k))
    (h : ∀ d τ1 v G1 H1, Ext tp G H G1 H1 → EnvV W tp G1 H1 σ ρ τ1 → Rp W.K W.cm G1 v d → PsIS W E tp0 G0 H0 x D (k d τ1) → Q v H1) : Pg W (fun _ => E) (rE W) tp σ ρ G H Q (δe ρ τ) := by
  revert P
  cases δe ρ τ with
  | ok d τ1 => exact fun P v G1 H1 e1 E1 r1 => h d τ1 v G1 H1 e1 E1 r1 P
  | ex y τ1 => exact fun P d G1 H1 e1 E1 hx => P d tp G1 H1 (I.e.step e1 E1).e E1.g E1.t (I.e.t.imp id fun z => z.1) hx
  | no => exact fun P => P
end
def IPostS (W : Wp) (tp : Option Addr) (G : GH) (H : Hp) (x : Addr) (Q : VK) (E : XK) : R DD → Prop
  | .ok d τ' => ∀ G' H', Ext tp G H G' H' → SB W G' H' → TapeO W G' H' tp τ' → Rp W.K W.cm G' (.ref x) d → (∀ B, OldB H B → Rp W.K W.cm (mns G' B) (.ref x) d) → Q .non H'
  | .ex e τ' => ∀ d G' H', Ext tp G H G' H' → SB W G' H' → TapeO W G' H' tp τ' → ExR W G' H' e d → E (.ref (W.cm e.cls)) d H'
  | .no => False
def spIS (W : Wp) (k : Nat) (cls : Str) (F : FnI) : Sp := fun vs H1 Q E => vs.length = k ∧ ∃ x dx H rest tp G as τ, vs = .ref x :: rest ∧ H x = none ∧ H dx = none ∧ dx ≠ x ∧ H1 = upd (upd H dx (.own x)) x (.ins (W.cm cls) dx []) ∧
  SB W G H ∧ Paired (ArgR W tp G) rest as ∧ TapeO W G H tp τ ∧ IPostS W tp G H x Q E (F x as τ)
theorem spI_S {W : Wp} {k : Nat} {cls : Str} {F : FnI} {vs : List V} {H : Hp} {Q : VK} {E : XK} (h : spI W k cls F vs H Q E) : spIS W k cls F vs H Q E := by
  obtain ⟨l, x, dx, H0, rest, tp, G, as, τ, h1, h2, h3, h4, h5, h6, h7, h8, P⟩ := h
  refine ⟨l, x, dx, H0, rest, tp, G, as, τ, h1, h2, h3, h4, h5, h6, h7, h8, ?_⟩
  revert P
  cases F x as τ with
  | ok d τ' => exact fun P G' H' e s t r _ => P G' H' e s t r
  | ex y τ' => exact fun P => P
  | no => exact fun P => P
theorem MkC.weak {P : Program} {w : World} {K : PySem.W.Frag} {mg : Str → Option Value} {base : Heap} {CX : CXT} {k : Nat} {C : Addr} {ps : List Str} {W : Wp} {m : Nat} {cls : Str} {F : FnI} {n : Nat} {ks : List Str} {gV : List V → List V → List V}
    (h : MkC P w K mg base CX k C ps (spIS W m cls F) n ks gV) : MkC P w K mg base CX k C ps (spI W m cls F) n ks gV := by
  obtain ⟨f, fd, M, G, b⟩ := h
  exact ⟨f, fd, M, ⟨fun vs H Q E q => G.len vs H Q E (spI_S q), fun A outer s H args us vs Q E g r e bt v q => G.run A outer s H args us vs Q E g r e bt v (spI_S q)⟩, b⟩
noncomputable def dMkB (i k n m : Nat) (F : FnI) (g : List PV → List PV → List PV) (a b : DPs) : DE := fun ρ τ => match ρ[i]? with
  | some (some (.ow c)) => match dMkN' k n m F g a b (bor i c ρ) none with
    | .ok d _ => .ok d τ
    | _ => .no
  | _ => .no
end Np
set_option Elab.async false
set_option linter.all false
set_option maxRecDepth 100000
set_option maxHeartbeats 4000000
namespace Np
open PySem PySem.Spec PyProof.Rows L2
section
variable {W : Wp} {Wx : L2.St → XK} {te : TE} {δe : DE}
def popD (xs : List DD) (n : Int) : Option (Nat × DD) := if -(2 ^ 63) ≤ n ∧ n < 2 ^ 63 then (seqIndex? n xs.length).bind fun k => (xs[k]?).map fun y => (k, y) else none
def dPopA (i j : Nat) (e : DE) : DS := fun ρ τ => match ρ[i]? with
  | some (some (.ow (.lst xs))) => stE (e ρ τ) ρ fun d τ1 => match d with
    | .int n => match popD xs n with
      | some (k, y) => .ok (.nx ((ρ.set i (some (.ow (.lst (xs.eraseIdx k))))).set j (some (.fr y)))) τ1
      | none => .no
    | _ => .no
  | _ => .no
abbrev gWords := m0 fun z => if z.length + 2 ≤ sizeLine then some (.lst ((Txt.words z).map DD.str)) else none
end
end Np
set_option Elab.async false
set_option linter.all false
set_option maxRecDepth 100000
set_option maxHeartbeats 4000000
namespace Np
open PySem PySem.Spec PyProof.Rows L2
section
variable {α β : Type} {ρ : PEnv} {τ : TS'} {a b c : DE} {d x y : DD} {g g' : DD → DD → Option DD} {i j : Nat} {δ δ' : DS} {r : DA}
@[simp] theorem ev_sizeLine : sizeLine = 16777216 := sizeLine_eq
@[simp] theorem ev_C : dC d ρ τ = .ok d τ := id rfl
def eSlot : Option (Option PV) → TS' → R DD
  | some (some (.fr d)), τ => .ok d τ
  | _, _ => .no
@[simp] theorem eSlot_fr : eSlot (some (some (.fr d))) τ = .ok d τ := id rfl
@[simp] theorem ev_V : dV i ρ τ = eSlot ρ[i]? τ := by
  unfold dV eSlot
  generalize ρ[i]? = o
  rcases o with _ | _ | p
  · rfl
  · rfl
  · cases p <;> rfl
def eOp1 (r : R DD) (g : DD → DD → Option DD) (b : DE) (ρ : PEnv) : R DD := r.bind fun x τ1 => (b ρ τ1).bind fun y τ2 => R.of τ2 (g x y)
def eOp2 (r : R DD) (g : DD → DD → Option DD) (x : DD) : R DD := r.bind fun y τ2 => R.of τ2 (g x y)
@[simp] theorem ev_Op : dOp g a b ρ τ = eOp1 (a ρ τ) g b ρ := id rfl
@[simp] theorem eOp1_ok : eOp1 (.ok x τ) g b ρ = eOp2 (b ρ τ) g x := id rfl
@[simp] theorem eOp2_ok : eOp2 (.ok y τ) g x = R.of τ (g x y) := id rfl
def eUn (r : R α) (g : α → Option β) : R β := r.bind fun x τ1 => R.of τ1 (g x)
@[simp] theorem ev_Un {g : DD → Option DD} : dUn g a ρ τ = eUn (a ρ τ) g := id rfl
@[simp] theorem eUn_ok {x : α} {g : α → Option β} : eUn (.ok x τ) g = R.of τ (g x) := id rfl
@[simp] theorem ev_Nil : dNil ρ τ = .ok [] τ := id rfl
def eCons1 (r : R α) (f : PEnv → TS' → R (List α)) (ρ : PEnv) : R (List α) := r.bind fun x τ1 => (f ρ τ1).bind fun xs τ2 => .ok (x :: xs) τ2
def eCons2 (r : R (List α)) (x : α) : R (List α) := r.bind fun xs τ2 => .ok (x :: xs) τ2
@[simp] theorem ev_Cons : dCons a r ρ τ = eCons1 (a ρ τ) r ρ := id rfl
@[simp] theorem eCons1_ok {x : α} {f : PEnv → TS' → R (List α)} : eCons1 (.ok x τ) f ρ = eCons2 (f ρ τ) x := id rfl
@[simp] theorem eCons2_ok {x : α} {xs : List α} : eCons2 (.ok xs τ) x = .ok (x :: xs) τ := id rfl
@[simp] theorem ev_Call {g : List DD → Option DD} : dCall g r ρ τ = eUn (r ρ τ) g := id rfl
def eSeqD (r : R (List DD)) (f : List DD → DD) : R DD := r.bind fun x τ1 => if x.length ≤ sizeLine then .ok (f x) τ1 else .no
@[simp] theorem ev_Lst : dLst r ρ τ = eSeqD (r ρ τ) .lst := id rfl
@[simp] theorem ev_Tup : dTup r ρ τ = eSeqD (r ρ τ) .tup := id rfl
@[simp] theorem eSeqD_ok {xs : List DD} {f : List DD → DD} : eSeqD (.ok xs τ) f = if xs.length ≤ 16777216 then .ok (f xs) τ else .no := by
  show (if xs.length ≤ sizeLine then _ else _) = _
  rw [sizeLine_eq]
def eTest (r : R DD) : R Bool := r.bind fun x τ1 => match x with
  | .bl b => .ok b τ1
  | _ => .no
@[simp] theorem ev_Test : dTest a ρ τ = eTest (a ρ τ) := id rfl
@[simp] theorem eTest_ok {b : Bool} : eTest (.ok (.bl b) τ) = .ok b τ := id rfl
@[simp] theorem ev_Tru : dTru a ρ τ = eUn (a ρ τ) tru := id rfl
variable {A B : DT}
def eAnd (r : R Bool) (b : DT) (ρ : PEnv) : R Bool := r.bind fun x τ1 => if x = true then b ρ τ1 else .ok false τ1
def eOr (r : R Bool) (b : DT) (ρ : PEnv) : R Bool := r.bind fun x τ1 => if x = true then .ok true τ1 else b ρ τ1
@[simp] theorem ev_And : dAnd A B ρ τ = eAnd (A ρ τ) B ρ := id rfl
@[simp] theorem ev_Or : dOr A B ρ τ = eOr (A ρ τ) B ρ := id rfl
@[simp] theorem eAnd_t : eAnd (.ok true τ) B ρ = B ρ τ := id rfl
@[simp] theorem eAnd_f : eAnd (.ok false τ) B ρ = .ok false τ := id rfl
@[simp] theorem eOr_t : eOr (.ok true τ) B ρ = .ok true τ := id rfl
@[simp] theorem eOr_f : eOr (.ok false τ) B ρ = B ρ τ := id rfl
def eAndV (r : R DD) (b : DE) (ρ : PEnv) : R DD := r.bind fun x τ1 => match x with
  | .bl true => b ρ τ1
  | .bl false => .ok (.bl false) τ1
  | _ => .no
def eOrV (r : R DD) (b : DE) (ρ : PEnv) : R DD := r.bind fun x τ1 => match x with
  | .bl true => .ok (.bl true) τ1
  | .bl false => b ρ τ1
  | _ => .no
def eNotV (r : R DD) : R DD := r.bind fun x τ1 => match x with
  | .bl b => .ok (.bl (!b)) τ1
  | _ => .no
@[simp] theorem ev_AndV : dAndV a b ρ τ = eAndV (a ρ τ) b ρ := id rfl
@[simp] theorem ev_OrV : dOrV a b ρ τ = eOrV (a ρ τ) b ρ := id rfl
@[simp] theorem ev_NotV : dNotV a ρ τ = eNotV (a ρ τ) := id rfl
@[simp] theorem eAndV_t : eAndV (.ok (.bl true) τ) b ρ = b ρ τ := id rfl
@[simp] theorem eAndV_f : eAndV (.ok (.bl false) τ) b ρ = .ok (.bl false) τ := id rfl
@[simp] theorem eOrV_t : eOrV (.ok (.bl true) τ) b ρ = .ok (.bl true) τ := id rfl
@[simp] theorem eOrV_f : eOrV (.ok (.bl false) τ) b ρ = b ρ τ := id rfl
@[simp] theorem eNotV_ok {k : Bool} : eNotV (.ok (.bl k) τ) = .ok (.bl (!k)) τ := id rfl
def eCh1 (r : R DD) (g g' : DD → DD → Option DD) (b c : DE) (ρ : PEnv) : R DD := r.bind fun x τ1 => (b ρ τ1).bind fun y τ2 => (R.of τ2 (g x y)).bind fun z τ3 => match z with
  | .bl true => (c ρ τ3).bind fun w τ4 => R.of τ4 (g' y w)
  | .bl false => .ok (.bl false) τ3
  | _ => .no
def eCh2 (r : R DD) (g g' : DD → DD → Option DD) (x : DD) (c : DE) (ρ : PEnv) : R DD := r.bind fun y τ2 => (R.of τ2 (g x y)).bind fun z τ3 => match z with
  | .bl true => (c ρ τ3).bind fun w τ4 => R.of τ4 (g' y w)
  | .bl false => .ok (.bl false) τ3
  | _ => .no
def eCh3 (z : Option DD) (g' : DD → DD → Option DD) (y : DD) (c : DE) (ρ : PEnv) (τ : TS') : R DD := (R.of τ z).bind fun z τ3 => match z with
  | .bl true => (c ρ τ3).bind fun w τ4 => R.of τ4 (g' y w)
  | .bl false => .ok (.bl false) τ3
  | _ => .no
@[simp] theorem ev_Chain : dChain g g' a b c ρ τ = eCh1 (a ρ τ) g g' b c ρ := id rfl
@[simp] theorem eCh1_ok : eCh1 (.ok x τ) g g' b c ρ = eCh2 (b ρ τ) g g' x c ρ := id rfl
@[simp] theorem eCh2_ok : eCh2 (.ok y τ) g g' x c ρ = eCh3 (g x y) g' y c ρ τ := id rfl
@[simp] theorem eCh3_t : eCh3 (some (.bl true)) g' y c ρ τ = eOp2 (c ρ τ) g' y := id rfl
@[simp] theorem eCh3_f : eCh3 (some (.bl false)) g' y c ρ τ = .ok (.bl false) τ := id rfl
@[simp] theorem oInt_ii {f : Int → Int → Option DD} {m n : Int} : oInt f (.int m) (.int n) = f m n := id rfl
@[simp] theorem oStr_ss {f : Str → Str → Option DD} {m n : Str} : oStr f (.str m) (.str n) = f m n := id rfl
@[simp] theorem gIxL_eq {ds : List DD} {n : Int} : gIxL (.lst ds) (.int n) = atI ds n := id rfl
@[simp] theorem gIxT_eq {ds : List DD} {n : Int} : gIxT (.tup ds) (.int n) = atI ds n := id rfl
@[simp] theorem gIxS_eq {z : Str} {n : Int} : gIxS (.str z) (.int n) = if z.length ≤ sizeLine then (atI z.cps.toList n).map fun c => .str ⟨#[c]⟩ else none := id rfl
@[simp] theorem gCat_eq {xs ys : List DD} : gCat (.lst xs) (.lst ys) = if xs.length + ys.length ≤ sizeLine then some (.lst (xs ++ ys)) else none := id rfl
@[simp] theorem gCatT_eq {xs ys : List DD} : gCatT (.tup xs) (.tup ys) = if xs.length + ys.length ≤ sizeLine then some (.tup (xs ++ ys)) else none := id rfl
@[simp] theorem gRep_eq {xs : List DD} {n : Int} : gRep (.lst xs) (.int n) = if -(2 ^ 63) ≤ n ∧ n < 2 ^ 63 ∧ xs.length * n.toNat ≤ sizeLine then some (.lst (List.replicate n.toNat xs).flatten) else none := id rfl
@[simp] theorem gMulS_eq {z : Str} {n : Int} : gMulS (.str z) (.int n) = if MulOk z n then some (.str (Txt.mul z n)) else none := id rfl
@[simp] theorem gEq_ii {k : Bool} {m n : Int} : gEq k (.int m) (.int n) = some (.bl (if k then !decide (m = n) else decide (m = n))) := id rfl
@[simp] theorem gEq_ss {k : Bool} {m n : Str} : gEq k (.str m) (.str n) = some (.bl (if k then !decide (m = n) else decide (m = n))) := id rfl
@[simp] theorem gEq_bb {k m n : Bool} : gEq k (.bl m) (.bl n) = some (.bl (if k then !decide (m = n) else decide (m = n))) := id rfl
@[simp] theorem gIsN_n {k : Bool} : gIsN k .non .non = some (.bl (!k)) := id rfl
@[simp] theorem gIsN_i {k : Bool} {m : Int} : gIsN k (.int m) .non = some (.bl k) := id rfl
@[simp] theorem gIsN_s {k : Bool} {m : Str} : gIsN k (.str m) .non = some (.bl k) := id rfl
@[simp] theorem gIsN_b {k m : Bool} : gIsN k (.bl m) .non = some (.bl k) := id rfl
@[simp] theorem gIsN_l {k : Bool} {m : List DD} : gIsN k (.lst m) .non = some (.bl k) := id rfl
@[simp] theorem gIsN_t {k : Bool} {m : List DD} : gIsN k (.tup m) .non = some (.bl k) := id rfl
@[simp] theorem gNeg_eq {n : Int} : gNeg (.int n) = some (.int (-n)) := id rfl
@[simp] theorem c1_one {f : DD → Option DD} : c1 f [d] = f d := id rfl
@[simp] theorem c2_two {f : DD → DD → Option DD} : c2 f [x, y] = f x y := id rfl
@[simp] theorem gLenS_eq {z : Str} : gLenS (.str z) = if z.length ≤ sizeLine then some (.int z.length) else none := id rfl
@[simp] theorem gLenL_l {ds : List DD} : gLenL (.lst ds) = some (.int ds.length) := id rfl
@[simp] theorem gLenL_t {ds : List DD} : gLenL (.tup ds) = some (.int ds.length) := id rfl
@[simp] theorem gAbs_eq {n : Int} : gAbs (.int n) = some (.int (if n < 0 then -n else n)) := id rfl
@[simp] theorem gStrI_eq {n : Int} : gStrI (.int n) = if n.natAbs.log2 < 1920 then some (.str (toString n)) else none := id rfl
@[simp] theorem gIntS_eq {z : Str} : gIntS (.str z) = if z.length ≤ 640 then (PySem.intText? z).map .int else none := id rfl
@[simp] theorem gInt1_i {n : Int} : gInt1 (.int n) = some (.int n) := id rfl
@[simp] theorem gInt1_b {n : Bool} : gInt1 (.bl n) = some (.int (if n then 1 else 0)) := id rfl
@[simp] theorem gSum_eq {ds : List DD} : gSum (.lst ds) = (ints? ds).map fun ns => .int ns.sum := id rfl
@[simp] theorem gAllL_eq {ds : List DD} : gAllL (.lst ds) = (bls? ds).map fun bs => .bl (bs.all id) := id rfl
@[simp] theorem gAnyL_eq {ds : List DD} : gAnyL (.lst ds) = (bls? ds).map fun bs => .bl (bs.any id) := id rfl
@[simp] theorem gList_l {ds : List DD} : gList (.lst ds) = some (.lst ds) := id rfl
@[simp] theorem gList_t {ds : List DD} : gList (.tup ds) = some (.lst ds) := id rfl
@[simp] theorem gList_tux {ds : List DD} : gList (.tux ds) = some (.lst ds) := id rfl
@[simp] theorem gLenL_tux {ds : List DD} : gLenL (.tux ds) = some (.int ds.length) := id rfl
@[simp] theorem gTuple_l {ds : List DD} : gTuple (.lst ds) = some (.tup ds) := id rfl
@[simp] theorem gTuple_t {ds : List DD} : gTuple (.tup ds) = some (.tup ds) := id rfl
@[simp] theorem gListS_eq {z : Str} : gListS (.str z) = if z.length ≤ sizeLine then some (.lst (signs z)) else none := id rfl
@[simp] theorem gIsi_i {T : String} {n : Int} : gIsi T (.int n) = some (.bl (isT T "int")) := id rfl
@[simp] theorem gIsi_b {T : String} {n : Bool} : gIsi T (.bl n) = some (.bl (isT T "bool")) := id rfl
@[simp] theorem gIsi_s {T : String} {n : Str} : gIsi T (.str n) = some (.bl (isT T "str")) := id rfl
@[simp] theorem gIsi_n {T : String} : gIsi T .non = some (.bl (isT T "NoneType")) := id rfl
@[simp] theorem gIsi_l {T : String} {n : List DD} : gIsi T (.lst n) = some (.bl (isT T "list")) := id rfl
@[simp] theorem gIsi_t {T : String} {n : List DD} : gIsi T (.tup n) = some (.bl (isT T "tuple")) := id rfl
@[simp] theorem gIsi2_i {T U : String} {n : Int} : gIsi2 T U (.int n) = some (.bl (isT T "int" || isT U "int")) := id rfl
@[simp] theorem gIsi2_b {T U : String} {n : Bool} : gIsi2 T U (.bl n) = some (.bl (isT T "bool" || isT U "bool")) := id rfl
@[simp] theorem gIsi2_s {T U : String} {n : Str} : gIsi2 T U (.str n) = some (.bl (isT T "str" || isT U "str")) := id rfl
@[simp] theorem gIsi2_n {T U : String} : gIsi2 T U .non = some (.bl (isT T "NoneType" || isT U "NoneType")) := id rfl
@[simp] theorem gIsi2_l {T U : String} {n : List DD} : gIsi2 T U (.lst n) = some (.bl (isT T "list" || isT U "list")) := id rfl
@[simp] theorem gIsi2_t {T U : String} {n : List DD} : gIsi2 T U (.tup n) = some (.bl (isT T "tuple" || isT U "tuple")) := id rfl
@[simp] theorem tru_n : tru .non = some false := id rfl
@[simp] theorem tru_b {b : Bool} : tru (.bl b) = some b := id rfl
@[simp] theorem tru_i {b : Int} : tru (.int b) = some (b != 0) := id rfl
@[simp] theorem tru_l {b : List DD} : tru (.lst b) = some (!b.isEmpty) := id rfl
@[simp] theorem tru_t {b : List DD} : tru (.tup b) = some (!b.isEmpty) := id rfl
variable {l h : DO}
@[simp] theorem ev_NoP : dNoP ρ τ = .ok none τ := id rfl
def ePart (r : R DD) : R (Option Int) := r.bind fun x τ1 => match x with
  | .int i => .ok (some i) τ1
  | _ => .no
@[simp] theorem ev_Part : dPart a ρ τ = ePart (a ρ τ) := id rfl
@[simp] theorem ePart_ok {n : Int} : ePart (.ok (.int n) τ) = .ok (some n) τ := id rfl
variable {G : DD → Option Int → Option Int → Option DD}
def eSl1 (r : R DD) (g : DD → Option Int → Option Int → Option DD) (l h : DO) (ρ : PEnv) : R DD := r.bind fun x τ1 => (l ρ τ1).bind fun lo τ2 => (h ρ τ2).bind fun hi τ3 => R.of τ3 (g x lo hi)
def eSl2 (r : R (Option Int)) (g : DD → Option Int → Option Int → Option DD) (x : DD) (h : DO) (ρ : PEnv) : R DD := r.bind fun lo τ2 => (h ρ τ2).bind fun hi τ3 => R.of τ3 (g x lo hi)
def eSl3 (r : R (Option Int)) (g : DD → Option Int → Option Int → Option DD) (x : DD) (lo : Option Int) : R DD := r.bind fun hi τ3 => R.of τ3 (g x lo hi)
@[simp] theorem ev_Sl : dSl G a l h ρ τ = eSl1 (a ρ τ) G l h ρ := id rfl
@[simp] theorem eSl1_ok : eSl1 (.ok x τ) G l h ρ = eSl2 (l ρ τ) G x h ρ := id rfl
@[simp] theorem eSl2_ok {lo : Option Int} : eSl2 (.ok lo τ) G x h ρ = eSl3 (h ρ τ) G x lo := id rfl
@[simp] theorem eSl3_ok {lo hi : Option Int} : eSl3 (.ok hi τ) G x lo = R.of τ (G x lo hi) := id rfl
@[simp] theorem gSlL_eq {ds : List DD} {lo hi : Option Int} : gSlL (.lst ds) lo hi = some (.lst (cutL ds lo hi)) := id rfl
@[simp] theorem gSlS_eq {z : Str} {lo hi : Option Int} : gSlS (.str z) lo hi = if z.length ≤ sizeLine then some (.str (cutS z lo hi)) else none := id rfl
@[simp] theorem gRevL_eq {ds : List DD} : gRevL (.lst ds) = some (.lst ds.reverse) := id rfl
@[simp] theorem gRevS_eq {z : Str} : gRevS (.str z) = if z.length ≤ sizeLine then some (.str (revS z)) else none := id rfl
variable {M : Str → List DD → Option DD}
def eM0 (r : R DD) (g : Str → List DD → Option DD) : R DD := r.bind fun x τ1 => match x with
  | .str z => R.of τ1 (g z [])
  | _ => .no
def eM1 (r : R DD) (g : Str → List DD → Option DD) (a : DE) (ρ : PEnv) : R DD := r.bind fun x τ1 => match x with
  | .str z => (a ρ τ1).bind fun y τ2 => R.of τ2 (g z [y])
  | _ => .no
def eM2 (r : R DD) (g : Str → List DD → Option DD) (z : Str) : R DD := r.bind fun y τ2 => R.of τ2 (g z [y])
def eMs (r : R DD) (g : Str → List DD → Option DD) (a : DA) (ρ : PEnv) : R DD := r.bind fun x τ1 => match x with
  | .str z => (a ρ τ1).bind fun y τ2 => R.of τ2 (g z y)
  | _ => .no
def eMs2 (r : R (List DD)) (g : Str → List DD → Option DD) (z : Str) : R DD := r.bind fun y τ2 => R.of τ2 (g z y)
@[simp] theorem ev_M0 : dM0 M a ρ τ = eM0 (a ρ τ) M := id rfl
@[simp] theorem ev_M1 : dM1 M a b ρ τ = eM1 (a ρ τ) M b ρ := id rfl
@[simp] theorem ev_Ms : dMs M a r ρ τ = eMs (a ρ τ) M r ρ := id rfl
@[simp] theorem eM0_ok {z : Str} : eM0 (.ok (.str z) τ) M = R.of τ (M z []) := id rfl
@[simp] theorem eM1_ok {z : Str} : eM1 (.ok (.str z) τ) M a ρ = eM2 (a ρ τ) M z := id rfl
@[simp] theorem eM2_ok {z : Str} : eM2 (.ok x τ) M z = R.of τ (M z [x]) := id rfl
@[simp] theorem eMs_ok {z : Str} : eMs (.ok (.str z) τ) M r ρ = eMs2 (r ρ τ) M z := id rfl
@[simp] theorem eMs2_ok {z : Str} {xs : List DD} : eMs2 (.ok xs τ) M z = R.of τ (M z xs) := id rfl
@[simp] theorem m0_ev {f : Str → Option DD} {z : Str} : m0 f z [] = f z := id rfl
@[simp] theorem m1S_ev {f : Str → Str → Option DD} {z w : Str} : m1S f z [.str w] = f z w := id rfl
@[simp] theorem m1I_ev {f : Str → Int → Option DD} {z : Str} {w : Int} : m1I f z [.int w] = f z w := id rfl
@[simp] theorem gFmt_s {z : Str} : gFmt (.str z) = if z.length ≤ sizeLine then some (.str z) else none := id rfl
@[simp] theorem gFmt_i {n : Int} : gFmt (.int n) = if n.natAbs.log2 < 1920 then some (.str (toString n)) else none := id rfl
def eJs (r : R DD) (acc : Str) (ds : List DE) (ρ : PEnv) : R DD := r.bind fun x τ1 => match x with
  | .str y => if (acc ++ y).length ≤ sizeLine then dJs ds (acc ++ y) ρ τ1 else .no
  | _ => .no
variable {ds : List DE} {acc : Str}
@[simp] theorem ev_Js0 : dJs [] acc ρ τ = .ok (.str acc) τ := id rfl
@[simp] theorem ev_Js : dJs (a :: ds) acc ρ τ = eJs (a ρ τ) acc ds ρ := id rfl
def lst? : DD → Option (List DD)
  | .lst ds => some ds
  | _ => none
def tup? : DD → Option (List DD)
  | .tup ds => some ds
  | .tux ds => some ds
  | _ => none
def sgn? : DD → Option (List DD)
  | .str z => some (signs z)
  | _ => none
@[simp] theorem lst?_eq {ds : List DD} : lst? (.lst ds) = some ds := id rfl
@[simp] theorem tup?_eq {ds : List DD} : tup? (.tup ds) = some ds := id rfl
@[simp] theorem tup?_tux {ds : List DD} : tup? (.tux ds) = some ds := id rfl
@[simp] theorem sgn?_eq {z : Str} : sgn? (.str z) = some (signs z) := id rfl
@[simp] theorem ev_IList : dIList a ρ τ = eUn (a ρ τ) lst? := by
  unfold dIList eUn
  congr 1
  funext x τ1
  cases x <;> rfl
@[simp] theorem ev_ITup : dITup a ρ τ = eUn (a ρ τ) tup? := by
  unfold dITup eUn
  congr 1
  funext x τ1
  cases x <;> rfl
@[simp] theorem ev_IStr : dIStr a ρ τ = eUn (a ρ τ) sgn? := by
  unfold dIStr eUn
  congr 1
  funext x τ1
  cases x <;> rfl
def rg1 : List DD → Option (List DD)
  | [.int j] => if -(2 ^ 62) ≤ j ∧ j < 2 ^ 62 then some (rangeD 0 j.toNat) else none
  | _ => none
def rg2 : List DD → Option (List DD)
  | [.int i, .int j] => if -(2 ^ 62) ≤ i ∧ i < 2 ^ 62 ∧ -(2 ^ 62) ≤ j ∧ j < 2 ^ 62 then some (rangeD i (j - i).toNat) else none
  | _ => none
@[simp] theorem rg1_eq {n : Int} : rg1 [.int n] = if -(2 ^ 62) ≤ n ∧ n < 2 ^ 62 then some (rangeD 0 n.toNat) else none := id rfl
@[simp] theorem rg2_eq {m n : Int} : rg2 [.int m, .int n] = if -(2 ^ 62) ≤ m ∧ m < 2 ^ 62 ∧ -(2 ^ 62) ≤ n ∧ n < 2 ^ 62 then some (rangeD m (n - m).toNat) else none := id rfl
@[simp] theorem ev_IR1 : dIR1 r ρ τ = eUn (r ρ τ) rg1 := by
  unfold dIR1 eUn
  congr 1
  funext x τ1
  unfold rg1
  rcases x with _ | ⟨d, _ | ⟨e, x⟩⟩
  · rfl
  · cases d <;> first | rfl | (dsimp only [R.of]; split <;> rfl)
  · cases d <;> rfl
@[simp] theorem ev_IR2 : dIR2 r ρ τ = eUn (r ρ τ) rg2 := by
  unfold dIR2 eUn
  congr 1
  funext x τ1
  unfold rg2
  rcases x with _ | ⟨d, _ | ⟨e, _ | ⟨f, x⟩⟩⟩
  · rfl
  · cases d <;> rfl
  · cases d <;> cases e <;> first | rfl | (dsimp only [R.of]; split <;> rfl)
  · cases d <;> cases e <;> rfl
def en? : List DD → Option (List DD)
  | [.lst ds] => some (enumD ds)
  | _ => none
def zp? : List DD → Option (List DD)
  | [.lst ds, .lst es] => some (zipD ds es)
  | _ => none
def rv? : List DD → Option (List DD)
  | [.lst ds] => some ds.reverse
  | _ => none
@[simp] theorem en?_eq {ds : List DD} : en? [.lst ds] = some (enumD ds) := id rfl
@[simp] theorem zp?_eq {ds es : List DD} : zp? [.lst ds, .lst es] = some (zipD ds es) := id rfl
@[simp] theorem rv?_eq {ds : List DD} : rv? [.lst ds] = some ds.reverse := id rfl
@[simp] theorem ev_IEnum : dIEnum r ρ τ = eUn (r ρ τ) en? := by
  unfold dIEnum eUn
  congr 1
  funext x τ1
  unfold en?
  rcases x with _ | ⟨d, _ | ⟨e, x⟩⟩
  · rfl
  · cases d <;> first | rfl | (dsimp only [R.of]; split <;> rfl)
  · cases d <;> rfl
@[simp] theorem ev_IZip : dIZip r ρ τ = eUn (r ρ τ) zp? := by
  unfold dIZip eUn
  congr 1
  funext x τ1
  unfold zp?
  rcases x with _ | ⟨d, _ | ⟨e, _ | ⟨f, x⟩⟩⟩
  · rfl
  · cases d <;> rfl
  · cases d <;> cases e <;> first | rfl | (dsimp only [R.of]; split <;> rfl)
  · cases d <;> cases e <;> rfl
@[simp] theorem ev_IRev : dIRev r ρ τ = eUn (r ρ τ) rv? := by
  unfold dIRev eUn
  congr 1
  funext x τ1
  unfold rv?
  rcases x with _ | ⟨d, _ | ⟨e, x⟩⟩
  · rfl
  · cases d <;> first | rfl | (dsimp only [R.of]; split <;> rfl)
  · cases d <;> rfl
variable {I : DI} {t : Tg} {vs : List Nat}
def eLc1 (r : R (List DD)) (t : Tg) (c : DT) (e : DE) (ρ : PEnv) : R (List DD) := r.bind fun ds τ1 => if ds.length ≤ sizeLine then lcL t c e ρ ds τ1 else .no
def eMap (r : R α) (f : α → β) : R β := r.bind fun x τ1 => .ok (f x) τ1
@[simp] theorem eMap_ok {x : α} {f : α → β} : eMap (.ok x τ) f = .ok (f x) τ := id rfl
@[simp] theorem ev_Lc : dLc I t A a vs ρ τ = eMap (eLc1 (I ρ τ) t A a (wipeP ρ vs)) .lst := by
  unfold dLc eMap eLc1
  cases I ρ τ with
  | ok ds τ1 => simp only [R.bind_ok]; split <;> rfl
  | ex x τ1 => rfl
  | no => rfl
@[simp] theorem ev_LcF : dLcF I t A a vs ρ τ = eMap (eLc1 (I ρ τ) t A a (wipeP ρ vs)) .lst := by
  unfold dLcF eMap eLc1
  cases I ρ τ with
  | ok ds τ1 => simp only [R.bind_ok]; split <;> rfl
  | ex x τ1 => rfl
  | no => rfl
@[simp] theorem eLc1_ok {ds : List DD} : eLc1 (.ok ds τ) t A a ρ = if ds.length ≤ 16777216 then lcL t A a ρ ds τ else .no := by
  show (if ds.length ≤ sizeLine then _ else _) = _
  rw [sizeLine_eq]
@[simp] theorem wipeP_nil : wipeP ρ [] = ρ := id rfl
@[simp] theorem wipeP_cons : wipeP ρ (i :: vs) = (wipeP ρ vs).set i none := id rfl
@[simp] theorem ev_Yes : dYes ρ τ = .ok true τ := id rfl
/-- a comprehension where nothing is drawn -/
theorem lcL_map {f : DD → DD} : ∀ {ds : List DD}, (∀ d ∈ ds, ∃ ρ1, tgF t d ρ = some ρ1 ∧ a ρ1 τ = .ok (f d) τ) → lcL t dYes a ρ ds τ = .ok (ds.map f) τ
  | [], _ => rfl
  | d :: ds, h => by
    obtain ⟨ρ1, h1, h2⟩ := h d List.mem_cons_self
    rw [lcL, h1]
    simp only [ev_Yes, R.nox_ok, R.bind_ok, if_true, h2]
    rw [lcL_map fun d hd => h d (List.mem_cons_of_mem _ hd)] <;> rfl
@[simp] theorem tgF_nm : tgF (.nm i) d ρ = some (ρ.set i (some (.fr d))) := by rw [tgF]
@[simp] theorem tgF_tp {ts : List Tg} {ds : List DD} : tgF (.tp ts) (.tup ds) ρ = tgFs ts ds ρ := by rw [tgF]
@[simp] theorem tgFs_nil : tgFs [] [] ρ = some ρ := by rw [tgFs]
@[simp] theorem tgFs_cons {ts : List Tg} {ds : List DD} : tgFs (t :: ts) (d :: ds) ρ = (tgF t d ρ).bind (tgFs ts ds) := by
  rw [tgFs]
  cases tgF t d ρ <;> rfl
@[simp] theorem ev_Nx : dNx ρ τ = .ok (.nx ρ) τ := id rfl
@[simp] theorem ev_RetN : dRetN ρ τ = .ok (.rt .non) τ := id rfl
def eSeq (r : R Ct) (b : DS) : R Ct := match r with
  | .ok (.nx ρ1) τ1 => b ρ1 τ1
  | r => r
@[simp] theorem ev_Seq : dSeq δ δ' ρ τ = eSeq (δ ρ τ) δ' := id rfl
@[simp] theorem eSeq_nx : eSeq (.ok (.nx ρ) τ) δ = δ ρ τ := id rfl
@[simp] theorem eSeq_rt : eSeq (.ok (.rt d) τ) δ = .ok (.rt d) τ := id rfl
@[simp] theorem eSeq_bk : eSeq (.ok (.bk ρ) τ) δ = .ok (.bk ρ) τ := id rfl
@[simp] theorem eSeq_ct : eSeq (.ok (.ct ρ) τ) δ = .ok (.ct ρ) τ := id rfl
@[simp] theorem eSeq_xc {x : Ex} : eSeq (.ok (.xc x ρ) τ) δ = .ok (.xc x ρ) τ := id rfl
def eSet (r : R DD) (i : Nat) (ρ : PEnv) : R Ct := stE r ρ fun d τ1 => .ok (.nx (ρ.set i (some (.fr d)))) τ1
@[simp] theorem ev_Set : dSet i a ρ τ = eSet (a ρ τ) i ρ := id rfl
@[simp] theorem eSet_ok : eSet (.ok d τ) i ρ = .ok (.nx (ρ.set i (some (.fr d)))) τ := id rfl
@[simp] theorem eSet_ex {x : Ex} : eSet (.ex x τ) i ρ = .ok (.xc x ρ) τ := id rfl
def eDrop (r : R DD) (ρ : PEnv) : R Ct := stE r ρ fun d τ1 => .ok (.nx ρ) τ1
@[simp] theorem ev_Drop : dDrop a ρ τ = eDrop (a ρ τ) ρ := id rfl
@[simp] theorem eDrop_ok : eDrop (.ok d τ) ρ = .ok (.nx ρ) τ := id rfl
def eRet (r : R DD) (ρ : PEnv) : R Ct := stE r ρ fun d τ1 => .ok (.rt d) τ1
@[simp] theorem ev_Ret : dRet a ρ τ = eRet (a ρ τ) ρ := id rfl
@[simp] theorem eRet_ok : eRet (.ok d τ) ρ = .ok (.rt d) τ := id rfl
@[simp] theorem eRet_ex {x : Ex} : eRet (.ex x τ) ρ = .ok (.xc x ρ) τ := id rfl
def eIfS (r : R Bool) (a b : DS) (ρ : PEnv) : R Ct := stE r ρ fun x τ1 => if x = true then a ρ τ1 else b ρ τ1
@[simp] theorem ev_IfS : dIfS A δ δ' ρ τ = eIfS (A ρ τ) δ δ' ρ := id rfl
@[simp] theorem eIfS_t : eIfS (.ok true τ) δ δ' ρ = δ ρ τ := id rfl
@[simp] theorem eIfS_f : eIfS (.ok false τ) δ δ' ρ = δ' ρ τ := id rfl
def eAsg (o : Option PEnv) (τ : TS') : R Ct := match o with
  | some ρ1 => .ok (.nx ρ1) τ
  | none => .no
def eAsgT (r : R DD) (g : Tg) (ρ : PEnv) : R Ct := stE r ρ fun d τ1 => eAsg (tgF g d ρ) τ1
@[simp] theorem ev_AsgT : dAsgT a t ρ τ = eAsgT (a ρ τ) t ρ := id rfl
@[simp] theorem eAsgT_ok : eAsgT (.ok d τ) t ρ = eAsg (tgF t d ρ) τ := id rfl
@[simp] theorem eAsg_some {ρ1 : PEnv} : eAsg (some ρ1) τ = .ok (.nx ρ1) τ := id rfl
def eAug1 (o : Option (Option PV)) (i : Nat) (g : DD → DD → Option DD) (e : DE) (ρ : PEnv) (τ : TS') : R Ct := match o with
  | some (some (.fr x)) => stE (e ρ τ) ρ fun y τ1 => match g x y with
    | some z => .ok (.nx (ρ.set i (some (.fr z)))) τ1
    | none => .no
  | _ => .no
def eAug2 (r : R DD) (i : Nat) (g : DD → DD → Option DD) (x : DD) (ρ : PEnv) : R Ct := stE r ρ fun y τ1 => match g x y with
    | some z => .ok (.nx (ρ.set i (some (.fr z)))) τ1
    | none => .no
def eAug3 (o : Option DD) (i : Nat) (ρ : PEnv) (τ : TS') : R Ct := match o with
    | some z => .ok (.nx (ρ.set i (some (.fr z)))) τ
    | none => .no
@[simp] theorem ev_Aug : dAug i g a ρ τ = eAug1 ρ[i]? i g a ρ τ := id rfl
@[simp] theorem eAug1_ok : eAug1 (some (some (.fr x))) i g a ρ τ = eAug2 (a ρ τ) i g x ρ := id rfl
@[simp] theorem eAug2_ok : eAug2 (.ok y τ) i g x ρ = eAug3 (g x y) i ρ τ := id rfl
@[simp] theorem eAug3_ok : eAug3 (some d) i ρ τ = .ok (.nx (ρ.set i (some (.fr d)))) τ := id rfl
def ePar (r : R (List DD)) (i j : Nat) (ρ : PEnv) : R Ct := stE r ρ fun ds τ1 => match ds with
  | [d, e] => .ok (.nx ((ρ.set i (some (.fr d))).set j (some (.fr e)))) τ1
  | _ => .no
@[simp] theorem ev_Par : dPar i j r ρ τ = ePar (r ρ τ) i j ρ := id rfl
@[simp] theorem ePar_ok : ePar (.ok [x, y] τ) i j ρ = .ok (.nx ((ρ.set i (some (.fr x))).set j (some (.fr y)))) τ := id rfl
variable {φ ψ : PEnv → TS' → R OC}
def eSetO (r : R OC) (i : Nat) (ρ : PEnv) : R Ct := stE r ρ fun c τ1 => .ok (.nx (ρ.set i (some (.ow c)))) τ1
@[simp] theorem ev_SetO : dSetO i φ ρ τ = eSetO (φ ρ τ) i ρ := id rfl
@[simp] theorem eSetO_ok {c : OC} : eSetO (.ok c τ) i ρ = .ok (.nx (ρ.set i (some (.ow c)))) τ := id rfl
def eLstF (r : R (List DD)) : R OC := r.bind fun x τ1 => if x.length ≤ sizeLine then .ok (.lst x) τ1 else .no
@[simp] theorem ev_LstF : dLstF r ρ τ = eLstF (r ρ τ) := id rfl
@[simp] theorem eLstF_ok {xs : List DD} : eLstF (.ok xs τ) = if xs.length ≤ 16777216 then .ok (.lst xs) τ else .no := by
  show (if xs.length ≤ sizeLine then _ else _) = _
  rw [sizeLine_eq]
def its1 : List DD → Option OC
  | [d] => (items? d).map .lst
  | _ => none
@[simp] theorem its1_l {ds : List DD} : its1 [.lst ds] = some (.lst ds) := id rfl
@[simp] theorem its1_t {ds : List DD} : its1 [.tup ds] = some (.lst ds) := id rfl
@[simp] theorem ev_ListF : dListF r ρ τ = eUn (r ρ τ) its1 := by
  unfold dListF eUn
  congr 1
  funext x τ1
  unfold its1
  rcases x with _ | ⟨d, _ | ⟨e, x⟩⟩
  · rfl
  · dsimp only
    cases items? d <;> rfl
  · rfl
def olst : Option DD → Option OC
  | some (.lst cs) => some (.lst cs)
  | _ => none
def eOpF1 (r : R DD) (g : DD → DD → Option DD) (b : DE) (ρ : PEnv) : R OC := r.bind fun x τ1 => (b ρ τ1).bind fun y τ2 => R.of τ2 (olst (g x y))
def eOpF2 (r : R DD) (g : DD → DD → Option DD) (x : DD) : R OC := r.bind fun y τ2 => R.of τ2 (olst (g x y))
@[simp] theorem olst_eq {ds : List DD} : olst (some (.lst ds)) = some (.lst ds) := id rfl
@[simp] theorem ev_OpF : dOpF g a b ρ τ = eOpF1 (a ρ τ) g b ρ := by
  unfold dOpF eOpF1
  congr 1
  funext x τ1
  congr 1
  funext y τ2
  generalize g x y = o
  rcases o with _ | d
  · rfl
  · cases d <;> rfl
@[simp] theorem eOpF1_ok : eOpF1 (.ok x τ) g b ρ = eOpF2 (b ρ τ) g x := id rfl
@[simp] theorem eOpF2_ok : eOpF2 (.ok y τ) g x = R.of τ (olst (g x y)) := id rfl
def eApp1 (o : Option (Option PV)) (i : Nat) (e : DE) (ρ : PEnv) (τ : TS') : R Ct := match o with
  | some (some (.ow (.lst xs))) => stE (e ρ τ) ρ fun d τ1 => if xs.length < sizeLine then .ok (.nx (ρ.set i (some (.ow (.lst (xs ++ [d])))))) τ1 else .no
  | _ => .no
def eApp2 (r : R DD) (i : Nat) (xs : List DD) (ρ : PEnv) : R Ct := stE r ρ fun d τ1 => if xs.length < sizeLine then .ok (.nx (ρ.set i (some (.ow (.lst (xs ++ [d])))))) τ1 else .no
variable {xs ys : List DD}
@[simp] theorem ev_App : dApp i a ρ τ = eApp1 ρ[i]? i a ρ τ := id rfl
@[simp] theorem eApp1_ok : eApp1 (some (some (.ow (.lst xs)))) i a ρ τ = eApp2 (a ρ τ) i xs ρ := id rfl
@[simp] theorem eApp2_ok : eApp2 (.ok d τ) i xs ρ = if xs.length < 16777216 then .ok (.nx (ρ.set i (some (.ow (.lst (xs ++ [d])))))) τ else .no := by
  show (if xs.length < sizeLine then _ else _) = _
  rw [sizeLine_eq]
def eExt1 (o : Option (Option PV)) (i : Nat) (e : DE) (ρ : PEnv) (τ : TS') : R Ct := match o with
  | some (some (.ow (.lst xs))) => stE (e ρ τ) ρ fun d τ1 => match d with
    | .lst ys => if xs.length + ys.length ≤ sizeLine then .ok (.nx (ρ.set i (some (.ow (.lst (xs ++ ys)))))) τ1 else .no
    | _ => .no
  | _ => .no
def eExt2 (r : R DD) (i : Nat) (xs : List DD) (ρ : PEnv) : R Ct := stE r ρ fun d τ1 => match d with
    | .lst ys => if xs.length + ys.length ≤ sizeLine then .ok (.nx (ρ.set i (some (.ow (.lst (xs ++ ys)))))) τ1 else .no
    | _ => .no
@[simp] theorem ev_Ext : dExt i a ρ τ = eExt1 ρ[i]? i a ρ τ := id rfl
@[simp] theorem eExt1_ok : eExt1 (some (some (.ow (.lst xs)))) i a ρ τ = eExt2 (a ρ τ) i xs ρ := id rfl
@[simp] theorem eExt2_ok : eExt2 (.ok (.lst ys) τ) i xs ρ = if xs.length + ys.length ≤ 16777216 then .ok (.nx (ρ.set i (some (.ow (.lst (xs ++ ys)))))) τ else .no := by
  show (if xs.length + ys.length ≤ sizeLine then _ else _) = _
  rw [sizeLine_eq]
def eRevO (o : Option (Option PV)) (i : Nat) (ρ : PEnv) (τ : TS') : R Ct := match o with
  | some (some (.ow (.lst xs))) => .ok (.nx (ρ.set i (some (.ow (.lst xs.reverse))))) τ
  | _ => .no
@[simp] theorem ev_RevO : dRevO i ρ τ = eRevO ρ[i]? i ρ τ := id rfl
@[simp] theorem eRevO_ok : eRevO (some (some (.ow (.lst xs)))) i ρ τ = .ok (.nx (ρ.set i (some (.ow (.lst xs.reverse))))) τ := id rfl
def ePut1 (r : R DD) (i : Nat) (k : DE) (ρ : PEnv) : R Ct := stE r ρ fun d τ1 => match ρ[i]? with
  | some (some (.ow (.lst xs))) => stE (k ρ τ1) ρ fun n τ2 => match n with
    | .int n => match ixN xs.length n with
      | some j => .ok (.nx (ρ.set i (some (.ow (.lst (xs.set j d)))))) τ2
      | none => .no
    | _ => .no
  | _ => .no
def ePut2 (o : Option (Option PV)) (i : Nat) (k : DE) (d : DD) (ρ : PEnv) (τ : TS') : R Ct := match o with
  | some (some (.ow (.lst xs))) => stE (k ρ τ) ρ fun n τ2 => match n with
    | .int n => match ixN xs.length n with
      | some j => .ok (.nx (ρ.set i (some (.ow (.lst (xs.set j d)))))) τ2
      | none => .no
    | _ => .no
  | _ => .no
def ePut3 (r : R DD) (i : Nat) (d : DD) (xs : List DD) (ρ : PEnv) : R Ct := stE r ρ fun n τ2 => match n with
    | .int n => match ixN xs.length n with
      | some j => .ok (.nx (ρ.set i (some (.ow (.lst (xs.set j d)))))) τ2
      | none => .no
    | _ => .no
def ePut4 (o : Option Nat) (i : Nat) (d : DD) (xs : List DD) (ρ : PEnv) (τ : TS') : R Ct := match o with
      | some j => .ok (.nx (ρ.set i (some (.ow (.lst (xs.set j d)))))) τ
      | none => .no
@[simp] theorem ev_PutL : dPutL i b a ρ τ = ePut1 (a ρ τ) i b ρ := id rfl
@[simp] theorem ePut1_ok : ePut1 (.ok d τ) i b ρ = ePut2 ρ[i]? i b d ρ τ := id rfl
@[simp] theorem ePut2_ok : ePut2 (some (some (.ow (.lst xs)))) i b d ρ τ = ePut3 (b ρ τ) i d xs ρ := id rfl
@[simp] theorem ePut3_ok {n : Int} : ePut3 (.ok (.int n) τ) i d xs ρ = ePut4 (ixN xs.length n) i d xs ρ τ := id rfl
@[simp] theorem ePut4_ok : ePut4 (some j) i d xs ρ τ = .ok (.nx (ρ.set i (some (.ow (.lst (xs.set j d)))))) τ := id rfl
def eFrz (o : Option (Option PV)) (i : Nat) (ρ : PEnv) : PEnv := match o with
  | some (some (.ow c)) => ρ.set i (some (.fr (ocD c)))
  | _ => ρ
@[simp] theorem ev_Frz : dFrz i δ ρ τ = δ (eFrz ρ[i]? i ρ) τ := id rfl
@[simp] theorem eFrz_ow {c : OC} : eFrz (some (some (.ow c))) i ρ = ρ.set i (some (.fr (ocD c))) := id rfl
@[simp] theorem eFrz_fr : eFrz (some (some (.fr d))) i ρ = ρ := id rfl
@[simp] theorem eFrz_no : eFrz (some none) i ρ = ρ := id rfl
@[simp] theorem ocD_l : ocD (.lst xs) = .lst xs := id rfl
def eParO (r : R OC) (j : Nat) (ρ ρ' : PEnv) : R Ct := stE r ρ fun y τ2 => .ok (.nx (ρ'.set j (some (.ow y)))) τ2
def eParF (r : R DD) (j : Nat) (ρ ρ' : PEnv) : R Ct := stE r ρ fun y τ2 => .ok (.nx (ρ'.set j (some (.fr y)))) τ2
def eParOO (r : R OC) (i j : Nat) (b : PEnv → TS' → R OC) (ρ : PEnv) : R Ct := stE r ρ fun x τ1 => eParO (b ρ τ1) j ρ (ρ.set i (some (.ow x)))
def eParOF (r : R OC) (i j : Nat) (b : DE) (ρ : PEnv) : R Ct := stE r ρ fun x τ1 => eParF (b ρ τ1) j ρ (ρ.set i (some (.ow x)))
def eParFO (r : R DD) (i j : Nat) (b : PEnv → TS' → R OC) (ρ : PEnv) : R Ct := stE r ρ fun x τ1 => eParO (b ρ τ1) j ρ (ρ.set i (some (.fr x)))
@[simp] theorem ev_ParOO : dParOO i j φ ψ ρ τ = eParOO (φ ρ τ) i j ψ ρ := id rfl
@[simp] theorem ev_ParOF : dParOF i j φ b ρ τ = eParOF (φ ρ τ) i j b ρ := id rfl
@[simp] theorem ev_ParFO : dParFO i j a ψ ρ τ = eParFO (a ρ τ) i j ψ ρ := id rfl
@[simp] theorem eParOO_ok {c : OC} : eParOO (.ok c τ) i j ψ ρ = eParO (ψ ρ τ) j ρ (ρ.set i (some (.ow c))) := id rfl
@[simp] theorem eParOF_ok {c : OC} : eParOF (.ok c τ) i j b ρ = eParF (b ρ τ) j ρ (ρ.set i (some (.ow c))) := id rfl
@[simp] theorem eParFO_ok : eParFO (.ok d τ) i j ψ ρ = eParO (ψ ρ τ) j ρ (ρ.set i (some (.fr d))) := id rfl
@[simp] theorem eParO_ok {c : OC} {ρ' : PEnv} : eParO (.ok c τ) j ρ ρ' = .ok (.nx (ρ'.set j (some (.ow c)))) τ := id rfl
@[simp] theorem eParF_ok {ρ' : PEnv} : eParF (.ok d τ) j ρ ρ' = .ok (.nx (ρ'.set j (some (.fr d)))) τ := id rfl
def eBor (o : Option (Option PV)) (i : Nat) (e : DE) (ρ : PEnv) (τ : TS') : R DD := match o with
  | some (some (.ow c)) => match e (bor i c ρ) none with
    | .ok d _ => if flatD d = true then .ok d τ else .no
    | _ => .no
  | _ => .no
def eBorT (o : Option (Option PV)) (i : Nat) (e : DT) (ρ : PEnv) (τ : TS') : R Bool := match o with
  | some (some (.ow c)) => match e (bor i c ρ) none with
    | .ok d _ => .ok d τ
    | _ => .no
  | _ => .no
def eBor2 (r : R DD) (τ : TS') : R DD := match r with
  | .ok d _ => if flatD d = true then .ok d τ else .no
  | _ => .no
def eBorT2 (r : R Bool) (τ : TS') : R Bool := match r with
  | .ok d _ => .ok d τ
  | _ => .no
@[simp] theorem ev_Bor : dBor i a ρ τ = eBor ρ[i]? i a ρ τ := id rfl
@[simp] theorem ev_BorT : dBorT i A ρ τ = eBorT ρ[i]? i A ρ τ := id rfl
@[simp] theorem eBor_ok {c : OC} : eBor (some (some (.ow c))) i a ρ τ = eBor2 (a (bor i c ρ) none) τ := id rfl
@[simp] theorem eBorT_ok {c : OC} : eBorT (some (some (.ow c))) i A ρ τ = eBorT2 (A (bor i c ρ) none) τ := id rfl
@[simp] theorem eBor2_i {n : Int} {τ' : TS'} : eBor2 (.ok (.int n) τ') τ = .ok (.int n) τ := id rfl
@[simp] theorem eBor2_s {n : Str} {τ' : TS'} : eBor2 (.ok (.str n) τ') τ = .ok (.str n) τ := id rfl
@[simp] theorem eBor2_b {n : Bool} {τ' : TS'} : eBor2 (.ok (.bl n) τ') τ = .ok (.bl n) τ := id rfl
@[simp] theorem eBor2_n {τ' : TS'} : eBor2 (.ok .non τ') τ = .ok .non τ := id rfl
@[simp] theorem eBorT2_ok {n : Bool} {τ' : TS'} : eBorT2 (.ok n τ') τ = .ok n τ := id rfl
@[simp] theorem bor_eq {c : OC} : bor i c ρ = (ρ.map hid).set i (some (.fr (ocD c))) := id rfl
@[simp] theorem hid_t : hid (some .tape) = none := id rfl
@[simp] theorem hid_n : hid none = none := id rfl
@[simp] theorem hid_f : hid (some (.fr d)) = some (.fr d) := id rfl
@[simp] theorem hid_o {c : OC} : hid (some (.ow c)) = some (.ow c) := id rfl
@[simp] theorem hid_s {ns : List Int} : hid (some (.scr ns)) = some (.scr ns) := id rfl
def eFor (r : R (List DD)) (g : Tg) (b : DS) (ρ : PEnv) : R Ct := stE r ρ fun ds τ1 => forL g b ds ρ τ1
@[simp] theorem ev_For : dFor I t δ ρ τ = eFor (I ρ τ) t δ ρ := id rfl
@[simp] theorem eFor_ok : eFor (.ok xs τ) t δ ρ = forL t δ xs ρ τ := id rfl
def eTurn (r : R Ct) (t : Tg) (b : DS) (ds : List DD) : R Ct := turnEnd r (forL t b ds)
theorem forL_cons {ρ1 : PEnv} (h : tgF t d ρ = some ρ1) : forL t δ (d :: xs) ρ τ = eTurn (δ ρ1 τ) t δ xs := by
  rw [forL, h]
  rfl
@[simp] theorem eTurn_nx : eTurn (.ok (.nx ρ) τ) t δ xs = forL t δ xs ρ τ := id rfl
@[simp] theorem eTurn_ct : eTurn (.ok (.ct ρ) τ) t δ xs = forL t δ xs ρ τ := id rfl
@[simp] theorem eTurn_bk : eTurn (.ok (.bk ρ) τ) t δ xs = .ok (.nx ρ) τ := id rfl
@[simp] theorem eTurn_rt : eTurn (.ok (.rt d) τ) t δ xs = .ok (.rt d) τ := id rfl
@[simp] theorem eTurn_xc {x : Ex} : eTurn (.ok (.xc x ρ) τ) t δ xs = .ok (.xc x ρ) τ := id rfl
/-- a loop by what holds ahead of each turn -/
theorem forL_inv {ds : List DD} (Inv : Nat → PEnv → TS' → Prop) (h0 : Inv 0 ρ τ)
    (hs : ∀ k d ρ τ, ds[k]? = some d → Inv k ρ τ → ∃ ρ1, tgF t d ρ = some ρ1 ∧ ∃ ρ2 τ2, (δ ρ1 τ = .ok (.nx ρ2) τ2 ∨ δ ρ1 τ = .ok (.ct ρ2) τ2) ∧ Inv (k + 1) ρ2 τ2) :
    ∃ ρ' τ', forL t δ ds ρ τ = .ok (.nx ρ') τ' ∧ Inv ds.length ρ' τ' := by
  have : ∀ (n k : Nat) (ρ : PEnv) (τ : TS'), ds.length - k = n → k ≤ ds.length → Inv k ρ τ → ∃ ρ' τ', forL t δ (ds.drop k) ρ τ = .ok (.nx ρ') τ' ∧ Inv ds.length ρ' τ' := by
    intro n
    induction n with
    | zero =>
      intro k ρ τ h1 h2 h3
      have e : k = ds.length := by omega
      subst e
      rw [List.drop_length]
      exact ⟨ρ, τ, rfl, h3⟩
    | succ n ih =>
      intro k ρ τ h1 h2 h3
      have hk : k < ds.length := by omega
      obtain ⟨ρ1, e1, ρ2, τ2, e2, h4⟩ := hs k ds[k] ρ τ (List.getElem?_eq_getElem hk) h3
      rw [List.drop_eq_getElem_cons hk, forL_cons e1]
      obtain ⟨ρ', τ', e3, h5⟩ := ih (k + 1) ρ2 τ2 (by omega) hk h4
      rcases e2 with e2 | e2
      · rw [e2, eTurn_nx]; exact ⟨ρ', τ', e3, h5⟩
      · rw [e2, eTurn_ct]; exact ⟨ρ', τ', e3, h5⟩
  have := this ds.length 0 ρ τ rfl (Nat.zero_le _) h0
  rwa [List.drop_zero] at this
/-- a while by a measure -/
theorem while_inv {n : Nat} (Inv : Nat → PEnv → TS' → Prop) {m : Nat} (hm : m < n) (h0 : Inv m ρ τ)
    (hs : ∀ k ρ τ, Inv k ρ τ → (∃ τ1 ρ2 τ2 k', A ρ τ = .ok true τ1 ∧ (δ ρ τ1 = .ok (.nx ρ2) τ2 ∨ δ ρ τ1 = .ok (.ct ρ2) τ2) ∧ k' < k ∧ Inv k' ρ2 τ2) ∨ (∃ τ1, A ρ τ = .ok false τ1 ∧ Inv 0 ρ τ1)) :
    ∃ ρ' τ', dWhile n A δ ρ τ = .ok (.nx ρ') τ' ∧ Inv 0 ρ' τ' ∧ ∃ τ0, A ρ' τ0 = .ok false τ' := by
  have : ∀ (n m : Nat) (ρ : PEnv) (τ : TS'), m < n → Inv m ρ τ → ∃ ρ' τ', whileN A δ n ρ τ = .ok (.nx ρ') τ' ∧ Inv 0 ρ' τ' ∧ ∃ τ0, A ρ' τ0 = .ok false τ' := by
    intro n
    induction n with
    | zero => intro m ρ τ h; omega
    | succ n ih =>
      intro m ρ τ h hi
      rw [whileN]
      rcases hs m ρ τ hi with ⟨τ1, ρ2, τ2, k', h1, h2, h3, h4⟩ | ⟨τ1, h1, h2⟩
      · rw [h1]
        obtain ⟨ρ', τ', e, q⟩ := ih k' ρ2 τ2 (by omega) h4
        rcases h2 with h2 | h2
        · refine ⟨ρ', τ', ?_, q⟩
          rw [stE_ok, if_pos rfl, h2]
          exact e
        · refine ⟨ρ', τ', ?_, q⟩
          rw [stE_ok, if_pos rfl, h2]
          exact e
      · rw [h1]
        exact ⟨ρ, τ1, rfl, h2, τ, h1⟩
  exact this n m ρ τ hm h0
def eTp (o : Option (Option PV)) (τ : TS') (k : Int) : R DD := match o, τ with
  | some (some .tape), some t => R.of (some t) (tauAt t k)
  | _, _ => .no
@[simp] theorem ev_Tp {k : Int} : dTp i k ρ τ = eTp ρ[i]? τ k := id rfl
@[simp] theorem eTp_ok {k : Int} {T : Tau} : eTp (some (some .tape)) (some T) k = R.of (some T) (tauAt T k) := id rfl
@[simp] theorem tauAt_0 {T : Tau} : tauAt T 0 = some (.lst (T.cells.map DD.int)) := id rfl
@[simp] theorem tauAt_1 {T : Tau} : tauAt T 1 = some (.int T.at') := id rfl
@[simp] theorem tauAt_2 {T : Tau} : tauAt T 2 = some (.int T.left) := id rfl
def eTpPut (r : R DD) (i : Nat) (k : Int) (ρ : PEnv) : R Ct := stE r ρ fun d τ1 => match ρ[i]?, τ1, d with
  | some (some .tape), some t, .int n => match tauPut t k n with
    | some t' => .ok (.nx ρ) (some t')
    | none => .no
  | _, _, _ => .no
def eTpPut2 (o : Option (Option PV)) (k : Int) (ρ : PEnv) (n : Int) (T : Tau) : R Ct := match o with
  | some (some .tape) => match tauPut T k n with
    | some t' => .ok (.nx ρ) (some t')
    | none => .no
  | _ => .no
@[simp] theorem ev_TpPut {k : Int} : dTpPut i k a ρ τ = eTpPut (a ρ τ) i k ρ := id rfl
@[simp] theorem eTpPut_ok {k n : Int} {T : Tau} : eTpPut (.ok (.int n) (some T)) i k ρ = eTpPut2 ρ[i]? k ρ n T := by
  unfold eTpPut eTpPut2
  simp only [stE_ok]
  split <;> split <;> first | rfl | simp_all
@[simp] theorem eTpPut2_1 {n : Int} {T : Tau} : eTpPut2 (some (some .tape)) 1 ρ n T = .ok (.nx ρ) (some { T with at' := n }) := id rfl
@[simp] theorem eTpPut2_2 {n : Int} {T : Tau} : eTpPut2 (some (some .tape)) 2 ρ n T = .ok (.nx ρ) (some { T with left := n }) := id rfl
def eMkT (o : Option (Option PV)) (τ : TS') (i : Nat) (ρ : PEnv) : R Ct := match o, τ with
  | some (some (.scr ns)), none => .ok (.nx (ρ.set i (some .tape))) (some ⟨cells0 ns, 0, 0, []⟩)
  | _, _ => .no
@[simp] theorem ev_MkT : dMkT i j ρ τ = eMkT ρ[j]? τ i ρ := id rfl
@[simp] theorem eMkT_ok {ns : List Int} : eMkT (some (some (.scr ns))) none i ρ = .ok (.nx (ρ.set i (some .tape))) (some ⟨cells0 ns, 0, 0, []⟩) := id rfl
variable {p : DP} {ps qs : DPs} {k n m : Nat} {F : Fn} {dv as bs : List PV} {gg : List PV → List PV → List PV}
@[simp] theorem ev_pNil : dpNil ρ τ = .ok [] τ := id rfl
@[simp] theorem ev_pCons : dpCons p ps ρ τ = eCons1 (p ρ τ) ps ρ := id rfl
@[simp] theorem ev_pE : dpE a ρ τ = eMap (a ρ τ) .fr := id rfl
def ePT (o : Option (Option PV)) (τ : TS') : R PV := match o with
  | some (some .tape) => .ok .tape τ
  | some (some (.scr ns)) => .ok (.scr ns) τ
  | _ => .no
@[simp] theorem ev_pT : dpT i ρ τ = ePT ρ[i]? τ := id rfl
@[simp] theorem ePT_t : ePT (some (some .tape)) τ = .ok .tape τ := id rfl
@[simp] theorem ePT_s {ns : List Int} : ePT (some (some (.scr ns))) τ = .ok (.scr ns) τ := id rfl
def eCallN (r : R (List PV)) (k : Nat) (F : Fn) (dv : List PV) : R DD := r.bind fun as τ1 => if as.length + dv.length = k then (F (as ++ dv) τ1).nox else .no
def eCallP (r : R (List PV)) (k : Nat) (F : Fn) (dv : List PV) : R DD := r.bind fun as τ1 => if as.length + dv.length = k then F (as ++ dv) τ1 else .no
@[simp] theorem ev_CallN : dCallN k F dv ps ρ τ = eCallN (ps ρ τ) k F dv := id rfl
@[simp] theorem ev_CallP : dCallP k F dv ps ρ τ = eCallP (ps ρ τ) k F dv := id rfl
@[simp] theorem eCallN_ok : eCallN (.ok as τ) k F dv = if as.length + dv.length = k then (F (as ++ dv) τ).nox else .no := id rfl
@[simp] theorem eCallP_ok : eCallP (.ok as τ) k F dv = if as.length + dv.length = k then F (as ++ dv) τ else .no := id rfl
def eCallK1 (r : R (List PV)) (k n m : Nat) (F : Fn) (g : List PV → List PV → List PV) (b : DPs) (ρ : PEnv) : R DD := r.bind fun as τ1 => (b ρ τ1).bind fun bs τ2 => if as.length = n ∧ bs.length = m ∧ (g as bs).length = k then F (g as bs) τ2 else .no
def eCallK2 (r : R (List PV)) (k n m : Nat) (F : Fn) (g : List PV → List PV → List PV) (as : List PV) : R DD := r.bind fun bs τ2 => if as.length = n ∧ bs.length = m ∧ (g as bs).length = k then F (g as bs) τ2 else .no
def eCallKN1 (r : R (List PV)) (k n m : Nat) (F : Fn) (g : List PV → List PV → List PV) (b : DPs) (ρ : PEnv) : R DD := r.bind fun as τ1 => (b ρ τ1).bind fun bs τ2 => if as.length = n ∧ bs.length = m ∧ (g as bs).length = k then (F (g as bs) τ2).nox else .no
def eCallKN2 (r : R (List PV)) (k n m : Nat) (F : Fn) (g : List PV → List PV → List PV) (as : List PV) : R DD := r.bind fun bs τ2 => if as.length = n ∧ bs.length = m ∧ (g as bs).length = k then (F (g as bs) τ2).nox else .no
@[simp] theorem ev_CallKP : dCallKP k n m F gg ps qs ρ τ = eCallK1 (ps ρ τ) k n m F gg qs ρ := id rfl
@[simp] theorem eCallK1_ok : eCallK1 (.ok as τ) k n m F gg qs ρ = eCallK2 (qs ρ τ) k n m F gg as := id rfl
@[simp] theorem eCallK2_ok : eCallK2 (.ok bs τ) k n m F gg as = if as.length = n ∧ bs.length = m ∧ (gg as bs).length = k then F (gg as bs) τ else .no := id rfl
@[simp] theorem ev_CallKN : dCallKN k n m F gg ps qs ρ τ = eCallKN1 (ps ρ τ) k n m F gg qs ρ := id rfl
@[simp] theorem eCallKN1_ok : eCallKN1 (.ok as τ) k n m F gg qs ρ = eCallKN2 (qs ρ τ) k n m F gg as := id rfl
@[simp] theorem eCallKN2_ok : eCallKN2 (.ok bs τ) k n m F gg as = if as.length = n ∧ bs.length = m ∧ (gg as bs).length = k then (F (gg as bs) τ).nox else .no := id rfl
def eBody (r : R Ct) (τ : TS') : R DD := match r with
  | .ok (.rt d) τ' => .ok d (fixT τ τ')
  | .ok (.nx _) τ' => .ok .non (fixT τ τ')
  | .ok (.xc x _) τ' => .ex x (fixT τ τ')
  | _ => .no
theorem ev_body : bodyF n δ as τ = eBody (δ (startP n as) τ) τ := id rfl
@[simp] theorem eBody_rt {τ' : TS'} : eBody (.ok (.rt d) τ') τ = .ok d (fixT τ τ') := id rfl
@[simp] theorem eBody_nx {τ' : TS'} : eBody (.ok (.nx ρ) τ') τ = .ok .non (fixT τ τ') := id rfl
@[simp] theorem eBody_xc {x : Ex} {τ' : TS'} : eBody (.ok (.xc x ρ) τ') τ = .ex x (fixT τ τ') := id rfl
@[simp] theorem fixT_some {t : Tau} {τ' : TS'} : fixT (some t) τ' = τ' := id rfl
@[simp] theorem fixT_none {τ' : TS'} : fixT none τ' = none := id rfl
def eRaise (r : R (List DD)) (cls : Str) (names : List Str) (ρ : PEnv) : R Ct := stE r ρ fun ds τ1 => if ds.length = names.length ∧ ds.length ≤ 1000 then .ok (.xc ⟨cls, (names.zip ds).reverse⟩ ρ) τ1 else .no
variable {cls : Str} {names : List Str}
@[simp] theorem ev_Raise : dRaise cls names r ρ τ = eRaise (r ρ τ) cls names ρ := id rfl
@[simp] theorem eRaise_ok : eRaise (.ok xs τ) cls names ρ = if xs.length = names.length ∧ xs.length ≤ 1000 then .ok (.xc ⟨cls, (names.zip xs).reverse⟩ ρ) τ else .no := id rfl
end
section
variable {ρ : PEnv} {τ : TS'} {a b c d : DE} {x y z : DD} {i j l k n m : Nat} {r : DA} {φ : PEnv → TS' → R OC} {F : FnO} {dv as bs : List PV} {ps qs : DPs} {gg : List PV → List PV → List PV} {xs : List DD} {C : OC} {δ : DS}
def eTd (o : Option (Option PV)) (τ : TS') (k : Pk) : R DD := match o, τ with
  | some (some .tape), some t => .ok (tauGet t k) (some t)
  | _, _ => .no
@[simp] theorem ev_Td {k : Pk} : dTd i k ρ τ = eTd ρ[i]? τ k := id rfl
@[simp] theorem eTd_ok {k : Pk} {T : Tau} : eTd (some (some .tape)) (some T) k = .ok (tauGet T k) (some T) := id rfl
@[simp] theorem tauGet_c {T : Tau} : tauGet T .cells = .lst (T.cells.map DD.int) := id rfl
@[simp] theorem tauGet_a {T : Tau} : tauGet T .at' = .int T.at' := id rfl
@[simp] theorem tauGet_l {T : Tau} : tauGet T .left = .int T.left := id rfl
def eTdPut (r : R DD) (i : Nat) (k : Pk) (ρ : PEnv) : R Ct := stE r ρ fun d τ1 => match ρ[i]?, τ1, d with
  | some (some .tape), some t, .int n => match tauSet t k n with
    | some t' => .ok (.nx ρ) (some t')
    | none => .no
  | _, _, _ => .no
def eTdPut2 (o : Option (Option PV)) (k : Pk) (ρ : PEnv) (n : Int) (T : Tau) : R Ct := match o with
  | some (some .tape) => match tauSet T k n with
    | some t' => .ok (.nx ρ) (some t')
    | none => .no
  | _ => .no
@[simp] theorem ev_TdPut {k : Pk} : dTdPut i k a ρ τ = eTdPut (a ρ τ) i k ρ := id rfl
@[simp] theorem eTdPut_ok {k : Pk} {n : Int} {T : Tau} : eTdPut (.ok (.int n) (some T)) i k ρ = eTdPut2 ρ[i]? k ρ n T := by
  unfold eTdPut eTdPut2
  simp only [stE_ok]
  split <;> split <;> first | rfl | simp_all
@[simp] theorem eTdPut2_a {n : Int} {T : Tau} : eTdPut2 (some (some .tape)) .at' ρ n T = .ok (.nx ρ) (some { T with at' := n }) := id rfl
@[simp] theorem eTdPut2_l {n : Int} {T : Tau} : eTdPut2 (some (some .tape)) .left ρ n T = .ok (.nx ρ) (some { T with left := n }) := id rfl
@[simp] theorem gRgL1_eq {n : Int} : gRgL1 (.int n) = if rgOk 0 n then some (.lst (rangeD 0 (n - 0).toNat)) else none := id rfl
def eRetF (r : R OC) (ρ : PEnv) : R Ct := stE r ρ fun c τ1 => .ok (.ro c) τ1
@[simp] theorem ev_RetF : dRetF φ ρ τ = eRetF (φ ρ τ) ρ := id rfl
@[simp] theorem eRetF_ok : eRetF (.ok C τ) ρ = .ok (.ro C) τ := id rfl
@[simp] theorem eSeq_ro : eSeq (.ok (.ro C) τ) δ = .ok (.ro C) τ := id rfl
@[simp] theorem eTurn_ro {t : Tg} : eTurn (.ok (.ro C) τ) t δ xs = .ok (.ro C) τ := id rfl
def eCallON (r : R (List PV)) (k : Nat) (F : FnO) (dv : List PV) : R OC := r.bind fun as τ1 => if as.length + dv.length = k then (F (as ++ dv) τ1).nox else .no
def eCallOP (r : R (List PV)) (k : Nat) (F : FnO) (dv : List PV) : R OC := r.bind fun as τ1 => if as.length + dv.length = k then F (as ++ dv) τ1 else .no
@[simp] theorem ev_CallON : dCallON k F dv ps ρ τ = eCallON (ps ρ τ) k F dv := id rfl
@[simp] theorem ev_CallOP : dCallOP k F dv ps ρ τ = eCallOP (ps ρ τ) k F dv := id rfl
@[simp] theorem eCallON_ok : eCallON (.ok as τ) k F dv = if as.length + dv.length = k then (F (as ++ dv) τ).nox else .no := id rfl
@[simp] theorem eCallOP_ok : eCallOP (.ok as τ) k F dv = if as.length + dv.length = k then F (as ++ dv) τ else .no := id rfl
def eCallKON1 (r : R (List PV)) (k n m : Nat) (F : FnO) (g : List PV → List PV → List PV) (b : DPs) (ρ : PEnv) : R OC := r.bind fun as τ1 => (b ρ τ1).bind fun bs τ2 => if as.length = n ∧ bs.length = m ∧ (g as bs).length = k then (F (g as bs) τ2).nox else .no
def eCallKON2 (r : R (List PV)) (k n m : Nat) (F : FnO) (g : List PV → List PV → List PV) (as : List PV) : R OC := r.bind fun bs τ2 => if as.length = n ∧ bs.length = m ∧ (g as bs).length = k then (F (g as bs) τ2).nox else .no
@[simp] theorem ev_CallKON : dCallKON k n m F gg ps qs ρ τ = eCallKON1 (ps ρ τ) k n m F gg qs ρ := id rfl
@[simp] theorem eCallKON1_ok : eCallKON1 (.ok as τ) k n m F gg qs ρ = eCallKON2 (qs ρ τ) k n m F gg as := id rfl
@[simp] theorem eCallKON2_ok : eCallKON2 (.ok bs τ) k n m F gg as = if as.length = n ∧ bs.length = m ∧ (gg as bs).length = k then (F (gg as bs) τ).nox else .no := id rfl
@[simp] theorem ev_Fz : dFz φ ρ τ = eMap (φ ρ τ) ocD := id rfl
def ePar3 (r : R (List DD)) (i j l : Nat) (ρ : PEnv) : R Ct := stE r ρ fun ds τ1 => match ds with
  | [d, e, f] => .ok (.nx (((ρ.set i (some (.fr d))).set j (some (.fr e))).set l (some (.fr f)))) τ1
  | _ => .no
@[simp] theorem ev_Par3 : dPar3 i j l r ρ τ = ePar3 (r ρ τ) i j l ρ := id rfl
@[simp] theorem ePar3_ok : ePar3 (.ok [x, y, z] τ) i j l ρ = .ok (.nx (((ρ.set i (some (.fr x))).set j (some (.fr y))).set l (some (.fr z)))) τ := id rfl
def ePar3O (r : R OC) (i j l : Nat) (b c : DE) (ρ : PEnv) : R Ct := stE r ρ fun x τ1 => stE (b ρ τ1) ρ fun y τ2 => stE (c ρ τ2) ρ fun z τ3 => .ok (.nx (((ρ.set i (some (.ow x))).set j (some (.fr y))).set l (some (.fr z)))) τ3
def ePar3O2 (r : R DD) (i j l : Nat) (x : OC) (c : DE) (ρ : PEnv) : R Ct := stE r ρ fun y τ2 => stE (c ρ τ2) ρ fun z τ3 => .ok (.nx (((ρ.set i (some (.ow x))).set j (some (.fr y))).set l (some (.fr z)))) τ3
def ePar3O3 (r : R DD) (i j l : Nat) (x : OC) (y : DD) (ρ : PEnv) : R Ct := stE r ρ fun z τ3 => .ok (.nx (((ρ.set i (some (.ow x))).set j (some (.fr y))).set l (some (.fr z)))) τ3
@[simp] theorem ev_Par3O : dPar3O i j l φ b c ρ τ = ePar3O (φ ρ τ) i j l b c ρ := id rfl
@[simp] theorem ePar3O_ok : ePar3O (.ok C τ) i j l b c ρ = ePar3O2 (b ρ τ) i j l C c ρ := id rfl
@[simp] theorem ePar3O2_ok : ePar3O2 (.ok y τ) i j l C c ρ = ePar3O3 (c ρ τ) i j l C y ρ := id rfl
@[simp] theorem ePar3O3_ok : ePar3O3 (.ok z τ) i j l C y ρ = .ok (.nx (((ρ.set i (some (.ow C))).set j (some (.fr y))).set l (some (.fr z)))) τ := id rfl
def eBodyO (r : R Ct) (τ : TS') : R OC := match r with
  | .ok (.ro c) τ' => .ok c (fixT τ τ')
  | .ok (.xc x _) τ' => .ex x (fixT τ τ')
  | _ => .no
theorem ev_bodyO : bodyO n δ as τ = eBodyO (δ (startP n as) τ) τ := id rfl
@[simp] theorem eBodyO_ro {τ' : TS'} : eBodyO (.ok (.ro C) τ') τ = .ok C (fixT τ τ') := id rfl
end
structure Tn (n : Nat) (t : Tau) : Prop where
  a0 : 0 ≤ t.at'
  a1 : t.at' ≤ n
  l0 : 0 ≤ t.left
theorem Tn.mono {n m : Nat} {t : Tau} (h : Tn n t) (e : n ≤ m) : Tn m t := ⟨h.a0, by have := h.a1; omega, h.l0⟩
theorem Tn.zero {ns : List Int} : Tn 0 ⟨ns, 0, 0, []⟩ := ⟨Int.le_refl _, Int.le_refl _, Int.le_refl _⟩
@[simp] theorem toPys_ints : ∀ ns : List Int, toPys (ns.map DD.int) = some (ns.map PyData.int)
  | [] => by rw [List.map_nil, toPys] <;> rfl
  | n :: ns => by rw [List.map_cons, toPys, toPys_ints ns, toPy]; rfl
@[simp] theorem toPys_strs : ∀ ns : List Str, toPys (ns.map DD.str) = some (ns.map PyData.str)
  | [] => by rw [List.map_nil, toPys] <;> rfl
  | n :: ns => by rw [List.map_cons, toPys, toPys_strs ns, toPy]; rfl
theorem py2_eqs {g : PyData → PyData → Option DD} {a b : DD} {p q : PyData} (h1 : toPy a = some p) (h2 : toPy b = some q) (h3 : SeqAt.shaped p = true) (h4 : SeqAt.shaped q = true) : py2 g a b = g p q := by
  unfold py2
  rw [h1, h2]
  simp only
  rw [if_pos ⟨h3, h4⟩]
theorem toPy_ints (ns : List Int) : toPy (.lst (ns.map DD.int)) = some (.list (ns.map PyData.int)) := by rw [toPy, toPys_ints]; rfl
theorem toPy_nil : toPy (.lst []) = some (.list []) := by rw [toPy, toPys]; rfl
theorem toPy_strs (ns : List Str) : toPy (.lst (ns.map DD.str)) = some (.list (ns.map PyData.str)) := by rw [toPy, toPys_strs]; rfl
@[simp] theorem ne_nil_ints (ns : List Int) : gNeD (.lst (ns.map DD.int)) (.lst []) = some (.bl (!ns.isEmpty)) := by
  show py2 _ _ _ = _
  rw [py2_eqs (toPy_ints ns) toPy_nil (shaped_ints ns) rfl, eqv_nil, List.isEmpty_map]
end Np
namespace Np
open PySem PySem.Spec PyProof.Rows L2
@[simp] theorem fixT_self {τ : TS'} : fixT τ τ = τ := by cases τ <;> rfl
theorem atI_intsD {ns : List Int} {i : Int} (h0 : 0 ≤ i) (h1 : i < ns.length) : ∃ v, atI (ns.map DD.int) i = some (.int v) := by
  obtain ⟨j, rfl⟩ := Int.eq_ofNat_of_zero_le h0
  have hj : j < ns.length := by omega
  exact ⟨ns[j], atI_nat (by rw [List.getElem?_map, List.getElem?_eq_getElem hj] <;> rfl)⟩
@[simp] theorem rangeD_len (lo : Int) (n : Nat) : (rangeD lo n).length = n := rangeD_length lo n
theorem rangeD_get {lo : Int} {n k : Nat} {d : DD} (h : (rangeD lo n)[k]? = some d) : k < n ∧ d = .int (lo + k) := by
  have hk : k < n := by have := (List.getElem?_eq_some_iff.mp h).1; rwa [rangeD_length] at this
  unfold rangeD at h
  rw [List.getElem?_map, List.getElem?_range hk] at h
  cases h
  exact ⟨hk, rfl⟩
/-- a comprehension with draws: what holds of each, by the turn -/
theorem lcL_draw {t : Tg} {a : DE} {ρ : PEnv} (Pv : DD → Prop) (Inv : Nat → TS' → Prop) : ∀ (ds : List DD) (k : Nat) (τ : TS'), Inv k τ →
    (∀ j d τ, j < k + ds.length → d ∈ ds → Inv j τ → ∃ ρ1, tgF t d ρ = some ρ1 ∧ ∃ y τ', a ρ1 τ = .ok y τ' ∧ Pv y ∧ Inv (j + 1) τ') →
    ∃ ys τ', lcL t dYes a ρ ds τ = .ok ys τ' ∧ ys.length = ds.length ∧ (∀ y ∈ ys, Pv y) ∧ Inv (k + ds.length) τ'
  | [], k, τ, h, _ => ⟨[], τ, rfl, rfl, (fun _ h => by cases h), h⟩
  | d :: ds, k, τ, h, hs => by
    obtain ⟨ρ1, h1, y, τ', h2, h3, h4⟩ := hs k d τ (by rw [List.length_cons]; omega) List.mem_cons_self h
    obtain ⟨ys, τ2, e, l, q, i⟩ := lcL_draw Pv Inv ds (k + 1) τ' h4 fun j d τ hj hd => hs j d τ (by rw [List.length_cons]; omega) (List.mem_cons_of_mem _ hd)
    refine ⟨y :: ys, τ2, ?_, by rw [List.length_cons, l]; rfl, fun z hz => ?_, by rw [List.length_cons, show k + (ds.length + 1) = k + 1 + ds.length by omega]; exact i⟩
    · rw [lcL, h1]
      simp only [ev_Yes, R.nox_ok, R.bind_ok, if_true, h2, e]
    · rcases List.mem_cons.mp hz with rfl | hz
      · exact h3
      · exact q z hz
end Np
namespace Np
open PySem PySem.Spec PyProof.Rows L2
section
variable {t : Tg} {a : DE} {ρ ρ1 : PEnv} {τ : TS'} {d y : DD} {ds ys : List DD} {A : DT}
@[simp] theorem lcL_nil : lcL t A a ρ [] τ = .ok [] τ := id rfl
def eLy1 (o : Option PEnv) (t : Tg) (a : DE) (ρ : PEnv) (ds : List DD) (τ : TS') : R (List DD) := match o with
  | some ρ1 => (a ρ1 τ).nox.bind fun y τ2 => (lcL t dYes a ρ ds τ2).bind fun ys τ3 => .ok (y :: ys) τ3
  | none => .no
def eLy2 (r : R DD) (t : Tg) (a : DE) (ρ : PEnv) (ds : List DD) : R (List DD) := r.nox.bind fun y τ2 => (lcL t dYes a ρ ds τ2).bind fun ys τ3 => .ok (y :: ys) τ3
@[simp] theorem eLy1_ok : eLy1 (some ρ1) t a ρ ds τ = eLy2 (a ρ1 τ) t a ρ ds := id rfl
@[simp] theorem eLy2_ok : eLy2 (.ok y τ) t a ρ ds = eCons2 (lcL t dYes a ρ ds τ) y := id rfl
end
end Np
namespace Np
open PySem PySem.Spec PyProof.Rows L2
theorem rangeD_get0 {n k : Nat} {d : DD} (h : (rangeD 0 n)[k]? = some d) : k < n ∧ d = .int k := by
  obtain ⟨a, b⟩ := rangeD_get h
  rw [Int.zero_add] at b
  exact ⟨a, b⟩
end Np
namespace Np
open PySem PySem.Spec PyProof.Rows L2
theorem cutL_in {α : Type} {xs : List α} {a b : Int} (h0 : 0 ≤ a) (h1 : a ≤ b) (h2 : b ≤ xs.length) : cutL xs (some a) (some b) = (xs.drop a.toNat).take (b.toNat - a.toNat) := by
  unfold cutL HT.sIx
  simp only
  rw [if_neg (by omega), if_neg (by omega), Nat.min_eq_left (by omega), Nat.min_eq_left (by omega)]
theorem cutL_from {α : Type} {xs : List α} {a : Int} (h0 : 0 ≤ a) : cutL xs (some a) none = xs.drop a.toNat := by
  unfold cutL HT.sIx
  simp only
  rw [if_neg (by omega)]
  by_cases h : a.toNat ≤ xs.length
  · rw [Nat.min_eq_left h, List.take_of_length_le (by rw [List.length_drop]; omega)]
  · rw [Nat.min_eq_right (by omega), List.drop_length, List.drop_eq_nil_of_le (by omega)]
    simp
theorem cutL_to {α : Type} {xs : List α} {b : Int} (h0 : 0 ≤ b) : cutL xs none (some b) = xs.take b.toNat := by
  unfold cutL HT.sIx
  simp only
  rw [if_neg (by omega), List.drop_zero, Nat.sub_zero]
  by_cases h : b.toNat ≤ xs.length
  · rw [Nat.min_eq_left h]
  · rw [Nat.min_eq_right (by omega), List.take_length, List.take_of_length_le (by omega)]
end Np
set_option Elab.async false
set_option linter.all false
set_option maxRecDepth 100000
set_option maxHeartbeats 4000000
namespace Np
open PySem PySem.Spec PyProof.Rows L2
def Rb (n k : Nat) (d : DD) : Prop := ∃ p, toPy d = some p ∧ PyData.canLay0 p = true ∧ PyData.depth p ≤ k ∧ PyData.showable p = true ∧ PyData.leavesShort 60 p = true ∧ PyData.bulk p ≤ n
def RbA (n k : Nat) (ds : List DD) : Prop := ∃ ps, toPys ds = some ps ∧ PyData.canLayAll0 ps = true ∧ PyData.depthAll ps ≤ k ∧ PyData.showableAll ps = true ∧ PyData.leavesShortAll 60 ps = true ∧ PyData.bulkAll ps ≤ n
theorem Rb.mono {n k m j : Nat} {d : DD} (h : Rb n k d) (h1 : n ≤ m) (h2 : k ≤ j) : Rb m j d := by
  obtain ⟨p, a, b, c, e, f, g⟩ := h
  exact ⟨p, a, b, Nat.le_trans c h2, e, f, Nat.le_trans g h1⟩
theorem Rb.big {i : Int} (h : i.natAbs < 10 ^ 50) : Rb 0 0 (.int i) := by
  refine ⟨.int i, by rw [toPy], rfl, Nat.le_refl _, ?_, ?_, Nat.le_refl _⟩
  · simp only [PyData.showable, decide_eq_true_eq]
    by_cases h0 : i.natAbs = 0
    · rw [h0]; decide
    · have := (Nat.log2_lt h0 (k := 200)).mpr (Nat.lt_of_lt_of_le h (by decide))
      omega
  · simp only [PyData.leavesShort, decide_eq_true_eq]
    have := (Tx.num (k := 50) (by decide) h).len
    exact Nat.le_trans this (by decide)
theorem Rb.int {i : Int} (h : i.natAbs < 10 ^ 12) : Rb 0 0 (.int i) := Rb.big (Nat.lt_trans h (by decide))
theorem Rb.str {x : Str} {n : Nat} (h : Tx n x) : Rb n 0 (.str x) := by
  refine ⟨.str x, by rw [toPy], h.strOk, Nat.le_refl _, rfl, ?_, h.len⟩
  simp only [PyData.leavesShort, List.all_eq_true, decide_eq_true_eq]
  intro c hc
  have := h.ok c hc
  omega
theorem Rb.bl {b : Bool} : Rb 0 0 (.bl b) := ⟨.bool b, by rw [toPy], rfl, Nat.le_refl _, rfl, rfl, Nat.le_refl _⟩
theorem Rb.non : Rb 0 0 .non := ⟨.none, by rw [toPy], rfl, Nat.le_refl _, rfl, rfl, Nat.le_refl _⟩
theorem RbA.nil : RbA 0 0 [] := ⟨[], by rw [toPys], rfl, Nat.le_refl _, rfl, rfl, Nat.le_refl _⟩
theorem RbA.cons {n m k : Nat} {d : DD} {ds : List DD} (h : Rb n k d) (hs : RbA m k ds) : RbA (n + 1 + m) k (d :: ds) := by
  obtain ⟨p, a, b, c, e, f, g⟩ := h
  obtain ⟨ps, a', b', c', e', f', g'⟩ := hs
  refine ⟨p :: ps, by rw [toPys, a, a'], ?_, ?_, ?_, ?_, ?_⟩
  · show (PyData.canLay0 p && PyData.canLayAll0 ps) = true
    rw [b, b']; rfl
  · show max (PyData.depth p) (PyData.depthAll ps) ≤ k
    omega
  · show (PyData.showable p && PyData.showableAll ps) = true
    rw [e, e']; rfl
  · show (PyData.leavesShort 60 p && PyData.leavesShortAll 60 ps) = true
    rw [f, f']; rfl
  · show PyData.bulk p + 1 + PyData.bulkAll ps ≤ _
    omega
theorem RbA.all {n k : Nat} : ∀ {ds : List DD}, (∀ d ∈ ds, Rb n k d) → RbA ((n + 1) * ds.length) k ds
  | [], _ => by
    obtain ⟨ps, a, b, c, r⟩ := RbA.nil
    exact ⟨ps, a, b, Nat.le_trans c (Nat.zero_le _), r⟩
  | d :: ds, h => by
    have := (h d List.mem_cons_self).mono (Nat.le_refl n) (Nat.le_refl k)
    have ih := RbA.all (n := n) (k := k) (ds := ds) fun x hx => h x (List.mem_cons_of_mem _ hx)
    have r := RbA.cons this ih
    rw [List.length_cons, Nat.mul_succ, Nat.add_comm]
    exact r
theorem Rb.lst {n k : Nat} {ds : List DD} (h : RbA n k ds) : Rb n (k + 1) (.lst ds) := by
  obtain ⟨ps, a, b, c, e, f, g⟩ := h
  exact ⟨.list ps, by rw [toPy, a]; rfl, b, Nat.succ_le_succ c, e, f, g⟩
theorem Rb.tup {n k : Nat} {ds : List DD} (h : RbA n k ds) : Rb n (k + 1) (.tup ds) := by
  obtain ⟨ps, a, b, c, e, f, g⟩ := h
  exact ⟨.tuple ps, by rw [toPy, a]; rfl, b, Nat.succ_le_succ c, e, f, g⟩
theorem fits60 {d : PyData} (hl : d.leavesShort 60 = true) (hw : d.bulk ≤ 2 ^ 17) : d.shown.length ≤ sizeLine := by
  have h := PyData.shown_le_bulk 60 (by decide) d hl
  have e : (2 : Nat) ^ 17 = 131072 := by decide
  have h2 : (60 + 2) * d.bulk ≤ 62 * 131072 := Nat.mul_le_mul (Nat.le_refl _) (by omega)
  rw [sizeLine_eq]
  omega
theorem gRepr_ok {n k : Nat} {d : DD} {l : List DD} (h : Rb n k d) (hi : items? d = some l) (hn : n ≤ 2 ^ 17) (hk : k ≤ 64) : ∃ x, gRepr d = some (.str x) := by
  obtain ⟨p, a, b, c, e, f, g⟩ := h
  refine ⟨p.shown, ?_⟩
  unfold gRepr
  rw [a, hi]
  have sh : SeqAt.shaped p = true := by
    unfold SeqAt.shaped
    rw [b, decide_eq_true (Nat.le_trans c hk)] <;> rfl
  simp only
  rw [if_pos ⟨e, sh, fits60 f (Nat.le_trans g hn)⟩]
theorem Rb.shaped {n k : Nat} {d : DD} (h : Rb n k d) (hk : k ≤ 64) : ∃ p, toPy d = some p ∧ SeqAt.shaped p = true := by
  obtain ⟨p, a, b, c, _⟩ := h
  refine ⟨p, a, ?_⟩
  unfold SeqAt.shaped
  rw [b, decide_eq_true (Nat.le_trans c hk)] <;> rfl
mutual
def plainD : DD → Bool
  | .non => true
  | .int _ => true
  | .str _ => true
  | .lst ds => plainDs ds
  | .tup ds => plainDs ds
  | _ => false
def plainDs : List DD → Bool
  | [] => true
  | d :: ds => plainD d && plainDs ds
end
mutual
theorem eqv_iff : ∀ {a b : DD} {p q : PyData}, plainD a = true → plainD b = true → toPy a = some p → toPy b = some q → (PyData.eqv p q = true ↔ a = b)
  | a, b, p, q, ha, hb, h1, h2 => by
    match a, ha, h1 with
    | .non, _, h1 =>
      rw [toPy] at h1; cases h1
      match b, hb, h2 with
      | .non, _, h2 => rw [toPy] at h2; cases h2; simp [PyData.eqv]
      | .int j, _, h2 => rw [toPy] at h2; cases h2; simp [PyData.eqv]
      | .str j, _, h2 => rw [toPy] at h2; cases h2; simp [PyData.eqv]
      | .lst j, _, h2 => rw [toPy] at h2; obtain ⟨x, _, rfl⟩ := Option.map_eq_some_iff.mp h2; simp [PyData.eqv]
      | .tup j, _, h2 => rw [toPy] at h2; obtain ⟨x, _, rfl⟩ := Option.map_eq_some_iff.mp h2; simp [PyData.eqv]
    | .int i, _, h1 =>
      rw [toPy] at h1; cases h1
      match b, hb, h2 with
      | .non, _, h2 => rw [toPy] at h2; cases h2; simp [PyData.eqv]
      | .int j, _, h2 => rw [toPy] at h2; cases h2; simp [PyData.eqv]
      | .str j, _, h2 => rw [toPy] at h2; cases h2; simp [PyData.eqv]
      | .lst j, _, h2 => rw [toPy] at h2; obtain ⟨x, _, rfl⟩ := Option.map_eq_some_iff.mp h2; simp [PyData.eqv]
      | .tup j, _, h2 => rw [toPy] at h2; obtain ⟨x, _, rfl⟩ := Option.map_eq_some_iff.mp h2; simp [PyData.eqv]
    | .str i, _, h1 =>
      rw [toPy] at h1; cases h1
      match b, hb, h2 with
      | .non, _, h2 => rw [toPy] at h2; cases h2; simp [PyData.eqv]
      | .int j, _, h2 => rw [toPy] at h2; cases h2; simp [PyData.eqv]
      | .str j, _, h2 => rw [toPy] at h2; cases h2; simp [PyData.eqv]
      | .lst j, _, h2 => rw [toPy] at h2; obtain ⟨x, _, rfl⟩ := Option.map_eq_some_iff.mp h2; simp [PyData.eqv]
      | .tup j, _, h2 => rw [toPy] at h2; obtain ⟨x, _, rfl⟩ := Option.map_eq_some_iff.mp h2; simp [PyData.eqv]
    | .lst i, ha, h1 =>
      rw [toPy] at h1; obtain ⟨x, hx, rfl⟩ := Option.map_eq_some_iff.mp h1
      rw [plainD] at ha
      match b, hb, h2 with
      | .non, _, h2 => rw [toPy] at h2; cases h2; simp [PyData.eqv]
      | .int j, _, h2 => rw [toPy] at h2; cases h2; simp [PyData.eqv]
      | .str j, _, h2 => rw [toPy] at h2; cases h2; simp [PyData.eqv]
      | .lst j, hb, h2 =>
        rw [toPy] at h2; obtain ⟨y, hy, rfl⟩ := Option.map_eq_some_iff.mp h2
        rw [plainD] at hb
        rw [PyData.eqv, eqvs_iff ha hb hx hy]
        simp
      | .tup j, _, h2 => rw [toPy] at h2; obtain ⟨y, _, rfl⟩ := Option.map_eq_some_iff.mp h2; simp [PyData.eqv]
    | .tup i, ha, h1 =>
      rw [toPy] at h1; obtain ⟨x, hx, rfl⟩ := Option.map_eq_some_iff.mp h1
      rw [plainD] at ha
      match b, hb, h2 with
      | .non, _, h2 => rw [toPy] at h2; cases h2; simp [PyData.eqv]
      | .int j, _, h2 => rw [toPy] at h2; cases h2; simp [PyData.eqv]
      | .str j, _, h2 => rw [toPy] at h2; cases h2; simp [PyData.eqv]
      | .lst j, _, h2 => rw [toPy] at h2; obtain ⟨y, _, rfl⟩ := Option.map_eq_some_iff.mp h2; simp [PyData.eqv]
      | .tup j, hb, h2 =>
        rw [toPy] at h2; obtain ⟨y, hy, rfl⟩ := Option.map_eq_some_iff.mp h2
        rw [plainD] at hb
        rw [PyData.eqv, eqvs_iff ha hb hx hy]
        simp
theorem eqvs_iff : ∀ {a b : List DD} {p q : List PyData}, plainDs a = true → plainDs b = true → toPys a = some p → toPys b = some q → (PyData.eqvAll p q = true ↔ a = b)
  | [], b, p, q, _, hb, h1, h2 => by
    rw [toPys] at h1; cases h1
    cases b with
    | nil => rw [toPys] at h2; cases h2; simp [PyData.eqvAll]
    | cons y ys =>
      rw [toPys] at h2
      split at h2
      · cases h2; simp [PyData.eqvAll]
      · cases h2
  | x :: xs, b, p, q, ha, hb, h1, h2 => by
    rw [toPys] at h1
    rw [plainDs, Bool.and_eq_true] at ha
    split at h1
    · rename_i u us e1 e2
      cases h1
      cases b with
      | nil => rw [toPys] at h2; cases h2; simp [PyData.eqvAll]
      | cons y ys =>
        rw [toPys] at h2
        rw [plainDs, Bool.and_eq_true] at hb
        split at h2
        · rename_i v vs e3 e4
          cases h2
          rw [PyData.eqvAll, Bool.and_eq_true, eqv_iff ha.1 hb.1 e1 e3, eqvs_iff ha.2 hb.2 e2 e4]
          simp
        · cases h2
    · cases h1
end
theorem gEqD_eq {a b : DD} {n k m j : Nat} (ha : Rb n k a) (hb : Rb m j b) (hk : k ≤ 64) (hj : j ≤ 64) (pa : plainD a = true) (pb : plainD b = true) [Decidable (a = b)] : gEqD a b = some (.bl (decide (a = b))) := by
  obtain ⟨p, h1, h3⟩ := ha.shaped hk
  obtain ⟨q, h2, h4⟩ := hb.shaped hj
  show py2 _ _ _ = _
  rw [py2_eqs h1 h2 h3 h4]
  congr 2
  have := eqv_iff pa pb h1 h2
  by_cases h : a = b
  · rw [decide_eq_true h]; exact this.mpr h
  · rw [decide_eq_false h]
    cases hh : PyData.eqv p q with
    | false => rfl
    | true => exact absurd (this.mp hh) h
theorem gNeD_eq {a b : DD} {n k m j : Nat} (ha : Rb n k a) (hb : Rb m j b) (hk : k ≤ 64) (hj : j ≤ 64) (pa : plainD a = true) (pb : plainD b = true) [Decidable (a = b)] : gNeD a b = some (.bl (!decide (a = b))) := by
  obtain ⟨p, h1, h3⟩ := ha.shaped hk
  obtain ⟨q, h2, h4⟩ := hb.shaped hj
  show py2 _ _ _ = _
  rw [py2_eqs h1 h2 h3 h4]
  congr 3
  have := eqv_iff pa pb h1 h2
  by_cases h : a = b
  · rw [decide_eq_true h]; exact this.mpr h
  · rw [decide_eq_false h]
    cases hh : PyData.eqv p q with
    | false => rfl
    | true => exact absurd (this.mp hh) h
end Np
namespace Np
open PySem PySem.Spec PyProof.Rows L2
@[simp] theorem eq_nil_ints (ns : List Int) : gEqD (.lst (ns.map DD.int)) (.lst []) = some (.bl ns.isEmpty) := by
  show py2 _ _ _ = _
  rw [py2_eqs (toPy_ints ns) toPy_nil (shaped_ints ns) rfl, eqv_nil, List.isEmpty_map]
end Np
set_option Elab.async false
set_option linter.all false
set_option maxRecDepth 100000
set_option maxHeartbeats 4000000
namespace Np
open PySem L2 PySem.StrLaws Builtin Builtin.Str
def eAsgL (r : R DD) (ts : List Tg) (ρ : PEnv) : R Ct := stE r ρ fun d τ1 => match d with
  | .lst ds => match tgFs ts ds ρ with
    | some ρ1 => .ok (.nx ρ1) τ1
    | none => .no
  | _ => .no
@[simp] theorem ev_AsgL {a : DE} {ts : List Tg} {ρ : PEnv} {τ : TS'} : dAsgL a ts ρ τ = eAsgL (a ρ τ) ts ρ := id rfl
@[simp] theorem eAsgL_3 {ρ : PEnv} {τ : TS'} {i j k : Nat} {x y z : DD} : eAsgL (.ok (.lst [x, y, z]) τ) [.nm i, .nm j, .nm k] ρ = .ok (.nx (((ρ.set i (some (.fr x))).set j (some (.fr y))).set k (some (.fr z)))) τ := by
  simp [eAsgL, tgFs, tgF, stE]
end Np
set_option Elab.async false
set_option linter.all false
set_option maxRecDepth 100000
set_option maxHeartbeats 4000000
namespace Np
open PySem L2
def S (l : List Nat) : PySem.Str := ⟨l.toArray⟩
theorem S_of (x : PySem.Str) : x = S x.cps.toList := by cases x; simp [S]
@[simp] theorem S_l (l : List Nat) : (S l).cps.toList = l := by simp [S]
@[simp] theorem S_n (l : List Nat) : (S l).length = l.length := by show l.toArray.size = _; simp
@[simp] theorem S_cat (a b : List Nat) : S a ++ S b = S (a ++ b) := by show Str.mk (a.toArray ++ b.toArray) = _; simp [S]
@[simp] theorem S_inj {a b : List Nat} : S a = S b ↔ a = b := ⟨fun h => by have := congrArg (fun z => z.cps.toList) h; simpa using this, fun h => by rw [h]⟩
@[simp] theorem S_cut (l : List Nat) (lo hi : Option Int) : cutS (S l) lo hi = S (cutL l lo hi) := by
  unfold cutS cutL
  rw [S_l, S_n]
  rfl
@[simp] theorem S_rev (l : List Nat) : revS (S l) = S l.reverse := by unfold revS; simp [S]
@[simp] theorem S_signs (l : List Nat) : signs (S l) = l.map fun c => DD.str (S [c]) := by unfold signs; rw [S_l]; rfl
theorem S_one (c : Nat) : (⟨#[c]⟩ : PySem.Str) = S [c] := rfl
theorem str_emp : Str.empty = S [] := rfl
def splitL (c : Nat) : List Nat → List (List Nat)
  | [] => [[]]
  | x :: xs => if x = c then [] :: splitL c xs else match splitL c xs with
    | h :: t => (x :: h) :: t
    | [] => [[x]]
def joinL (s : List Nat) : List (List Nat) → List Nat
  | [] => []
  | [x] => x
  | x :: y :: r => x ++ s ++ joinL s (y :: r)
theorem splitL_ne (c : Nat) : ∀ l, splitL c l ≠ []
  | [] => by simp [splitL]
  | x :: xs => by
    unfold splitL
    split
    · simp
    · split <;> simp
theorem splitL_free {c : Nat} : ∀ {p l : List Nat}, c ∉ p → splitL c (p ++ c :: l) = p :: splitL c l
  | [], l, _ => by simp [splitL]
  | x :: p, l, h => by
    simp only [List.mem_cons, not_or] at h
    rw [List.cons_append, splitL, if_neg (fun z => h.1 z.symm), splitL_free h.2]
theorem splitL_end {c : Nat} : ∀ {p : List Nat}, c ∉ p → splitL c p = [p]
  | [], _ => rfl
  | x :: p, h => by
    simp only [List.mem_cons, not_or] at h
    rw [splitL, if_neg (fun z => h.1 z.symm), splitL_end h.2]
theorem splitL_uniq {c : Nat} : ∀ {ps : List (List Nat)} {l : List Nat}, ps ≠ [] → (∀ p ∈ ps, c ∉ p) → joinL [c] ps = l → splitL c l = ps
  | [], _, h, _, _ => absurd rfl h
  | [x], l, _, h, e => by
    subst e
    exact splitL_end (h x List.mem_cons_self)
  | x :: y :: r, l, _, h, e => by
    subst e
    have e2 : joinL [c] (x :: y :: r) = x ++ c :: joinL [c] (y :: r) := by simp [joinL]
    rw [e2, splitL_free (h x List.mem_cons_self), splitL_uniq (ps := y :: r) (by simp) (fun p hp => h p (List.mem_cons_of_mem _ hp)) rfl]
theorem join_l (s : PySem.Str) : ∀ ps : List PySem.Str, (Str.join s ps).cps.toList = joinL s.cps.toList (ps.map fun z => z.cps.toList)
  | [] => rfl
  | [x] => rfl
  | x :: y :: r => by
    show (x ++ s ++ Str.join s (y :: r)).cps.toList = _
    rw [show ∀ a b : PySem.Str, (a ++ b).cps.toList = a.cps.toList ++ b.cps.toList from fun a b => by show (a.cps ++ b.cps).toList = _; simp]
    rw [show ∀ a b : PySem.Str, (a ++ b).cps.toList = a.cps.toList ++ b.cps.toList from fun a b => by show (a.cps ++ b.cps).toList = _; simp, join_l s (y :: r)]
    rfl
theorem split_ne (x y : PySem.Str) : Txt.split x y ≠ [] := by
  intro h
  have h2 := StrLaws.join_split x y
  unfold Txt.split at h
  split at h
  · cases h
  · split at h
    · cases h
    · rw [StrLaws.partsBetween_eq] at h
      obtain ⟨p, r, e⟩ := StrLaws.partsFrom_ne x y.length 0 (Builtin.Str.occurrences x y 0 x.length (x.length + 1))
      rw [e] at h
      cases h
theorem split_S (l : List Nat) (c : Nat) : Txt.split (S l) (S [c]) = (splitL c l).map S := by
  have h1 := StrLaws.join_split (S l) (S [c])
  have h2 := StrLaws.split_free (S l) c
  have h3 := split_ne (S l) (S [c])
  change ∀ p ∈ Txt.split (S l) (S [c]), c ∉ p.cps.toList at h2
  generalize Txt.split (S l) (S [c]) = ps at *
  have h4 := congrArg (fun z => z.cps.toList) h1
  simp only [join_l, S_l] at h4
  have h5 := splitL_uniq (c := c) (ps := ps.map fun z => z.cps.toList) (l := l) (by simpa using h3) (fun p hp => by
    obtain ⟨q, hq, rfl⟩ := List.mem_map.mp hp
    exact h2 q hq) h4
  rw [h5, List.map_map]
  conv => lhs; rw [← List.map_id ps]
  refine List.map_congr_left fun z _ => ?_
  exact S_of z
theorem joinT_S (s : List Nat) (ps : List (List Nat)) : Txt.join (S s) (ps.map S) = S (joinL s ps) := by
  have e : Txt.join (S s) (ps.map S) = Str.join (S s) (ps.map S) := StrLaws.glued_eq_join _ _
  rw [e, S_of (Str.join _ _), join_l, List.map_map]
  congr 1
  rw [S_l]
  congr 1
  conv => rhs; rw [← List.map_id ps]
  exact List.map_congr_left fun z _ => S_l z
theorem joinL_nil : ∀ ps : List (List Nat), joinL [] ps = ps.flatten
  | [] => rfl
  | [x] => by simp [joinL]
  | x :: y :: r => by rw [joinL, joinL_nil (y :: r)]; simp
theorem snocCases {α : Type} (l : List α) : l = [] ∨ ∃ r x, l = r ++ [x] := by
  cases h : l.reverse with
  | nil => left; simpa using h
  | cons x r => right; exact ⟨r.reverse, x, by have := congrArg List.reverse h; simpa using this⟩
section
variable {t : Tg} {a : DE} {A : DT} {ρ : PEnv} {τ : TS'} {α : Type}
theorem lcL_mapOf {mk f : α → DD} : ∀ {xs : List α}, (∀ x ∈ xs, ∃ ρ1, tgF t (mk x) ρ = some ρ1 ∧ a ρ1 τ = .ok (f x) τ) → lcL t dYes a ρ (xs.map mk) τ = .ok (xs.map f) τ
  | [], _ => rfl
  | x :: xs, h => by
    obtain ⟨ρ1, h1, h2⟩ := h x List.mem_cons_self
    rw [List.map_cons, lcL, h1]
    simp only [ev_Yes, R.nox_ok, R.bind_ok, if_true, h2]
    rw [lcL_mapOf fun d hd => h d (List.mem_cons_of_mem _ hd)] <;> rfl
theorem lcL_fmapOf {mk f : α → DD} {p : α → Bool} : ∀ {xs : List α}, (∀ x ∈ xs, ∃ ρ1, tgF t (mk x) ρ = some ρ1 ∧ A ρ1 τ = .ok (p x) τ ∧ (p x = true → a ρ1 τ = .ok (f x) τ)) → lcL t A a ρ (xs.map mk) τ = .ok ((xs.filter p).map f) τ
  | [], _ => rfl
  | x :: xs, h => by
    obtain ⟨ρ1, h1, h2, h3⟩ := h x List.mem_cons_self
    have ih := lcL_fmapOf (p := p) (f := f) (xs := xs) fun d hd => h d (List.mem_cons_of_mem _ hd)
    rw [List.map_cons, lcL, h1]
    simp only [h2, R.nox_ok, R.bind_ok]
    cases hp : p x with
    | false => rw [List.filter_cons_of_neg (by rw [hp]; decide)]; simp [ih]
    | true => rw [List.filter_cons_of_pos hp]; simp [h3 hp, ih]
@[simp] theorem bls?_mapf {f : α → Bool} (xs : List α) : bls? (xs.map fun x => DD.bl (f x)) = some (xs.map f) := by
  rw [← bls?_map, List.map_map]; rfl
@[simp] theorem ints?_mapf {f : α → Int} (xs : List α) : ints? (xs.map fun x => DD.int (f x)) = some (xs.map f) := by
  rw [← ints?_map, List.map_map]; rfl
@[simp] theorem strs?_mapf {f : α → PySem.Str} (xs : List α) : strs? (xs.map fun x => DD.str (f x)) = some (xs.map f) := by
  rw [← strs?_map, List.map_map]; rfl
end
@[simp] theorem atI_0 {α : Type} {x : α} {xs : List α} : atI (x :: xs) 0 = some x := by
  have : atI (x :: xs) ((0 : Nat) : Int) = some x := atI_nat rfl
  exact this
@[simp] theorem atI_1 {α : Type} {x y : α} {xs : List α} : atI (x :: y :: xs) 1 = some y := by
  have : atI (x :: y :: xs) ((1 : Nat) : Int) = some y := atI_nat rfl
  exact this
@[simp] theorem atI_2 {α : Type} {x y z : α} {xs : List α} : atI (x :: y :: z :: xs) 2 = some z := by
  have : atI (x :: y :: z :: xs) ((2 : Nat) : Int) = some z := atI_nat rfl
  exact this
@[simp] theorem atI_3 {α : Type} {x y z w : α} {xs : List α} : atI (x :: y :: z :: w :: xs) 3 = some w := by
  have : atI (x :: y :: z :: w :: xs) ((3 : Nat) : Int) = some w := atI_nat rfl
  exact this
@[simp] theorem atI_4 {α : Type} {x y z w u : α} {xs : List α} : atI (x :: y :: z :: w :: u :: xs) 4 = some u := by
  have : atI (x :: y :: z :: w :: u :: xs) ((4 : Nat) : Int) = some u := atI_nat rfl
  exact this
/-- right code points -/
def Cp (l : List Nat) : Prop := ∀ c ∈ l, c < 1114112
theorem Tx.S {n : Nat} {l : List Nat} (h : l.length ≤ n) (c : Cp l) : Tx n (Np.S l) := ⟨by rw [S_n]; exact h, by rw [S_l]; exact c⟩
theorem Tx.of {n : Nat} {l : List Nat} (h : Tx n (Np.S l)) : l.length ≤ n ∧ Cp l := ⟨by have := h.len; rwa [S_n] at this, by have := h.ok; rwa [S_l] at this⟩
theorem shaped_strs {ns : List PySem.Str} (h : ∀ x ∈ ns, PyData.strOk x = true) : SeqAt.shaped (.list (ns.map PyData.str)) = true := Fine.shaped (k := 1) (Fine.list fun d hd => by
  obtain ⟨x, hx, rfl⟩ := List.mem_map.mp hd
  exact Fine.str (h x hx))
theorem ne_nil_strs {α : Type} {f : α → List Nat} {xs : List α} (h : ∀ x ∈ xs, Cp (f x)) : gNeD (.lst (xs.map fun x => .str (S (f x)))) (.lst []) = some (.bl (!xs.isEmpty)) := by
  have e : (xs.map fun x => DD.str (S (f x))) = (xs.map fun x => S (f x)).map DD.str := by rw [List.map_map]; rfl
  show py2 _ _ _ = _
  rw [e, py2_eqs (toPy_strs _) toPy_nil (shaped_strs fun y hy => by
    obtain ⟨x, hx, rfl⟩ := List.mem_map.mp hy
    exact (Tx.S (Nat.le_refl _) (h x hx)).strOk) rfl, eqv_nil, List.isEmpty_map, List.isEmpty_map]
theorem Cp.sub {l m : List Nat} (h : Cp m) (s : ∀ c ∈ l, c ∈ m) : Cp l := fun c hc => h c (s c hc)
theorem Cp.app {l m : List Nat} (h : Cp l) (k : Cp m) : Cp (l ++ m) := fun c hc => (List.mem_append.mp hc).elim (h c) (k c)
theorem Cp.take {l : List Nat} (h : Cp l) (n : Nat) : Cp (l.take n) := h.sub fun _ hc => List.mem_of_mem_take hc
theorem Cp.drop {l : List Nat} (h : Cp l) (n : Nat) : Cp (l.drop n) := h.sub fun _ hc => List.mem_of_mem_drop hc
theorem Cp.cons {l : List Nat} {c : Nat} (hc : c < 1114112) (h : Cp l) : Cp (c :: l) := fun x hx => by
  rcases List.mem_cons.mp hx with rfl | hx
  · exact hc
  · exact h x hx
theorem Cp.nil : Cp [] := fun x hx => by cases hx
theorem all_signs {ys : List DD} {P : Nat → Prop} (h : ∀ y ∈ ys, ∃ c, y = .str (S [c]) ∧ P c) : ∃ cs : List Nat, ys = cs.map (fun c => DD.str (S [c])) ∧ ∀ c ∈ cs, P c := by
  induction ys with
  | nil => exact ⟨[], rfl, fun c hc => by cases hc⟩
  | cons y ys ih =>
    obtain ⟨cs, e, q⟩ := ih fun y hy => h y (List.mem_cons_of_mem _ hy)
    obtain ⟨c, e2, q2⟩ := h y List.mem_cons_self
    refine ⟨c :: cs, by rw [e, e2]; rfl, fun x hx => ?_⟩
    rcases List.mem_cons.mp hx with rfl | hx
    · exact q2
    · exact q x hx
theorem flatten_ones : ∀ cs : List Nat, (cs.map fun c => [c]).flatten = cs
  | [] => rfl
  | c :: cs => by simp [flatten_ones cs]
theorem join_gen {s : List Nat} {ps : List (List Nat)} (h : (ps.map (·.length)).sum + ps.length * s.length ≤ 16777216) : gJoin (S s) [.lst (ps.map fun p => DD.str (S p))] = some (.str (S (joinL s ps))) := by
  have e := joinT_S s ps
  have e2 : (ps.map fun p => DD.str (S p)) = (ps.map S).map DD.str := by rw [List.map_map]; rfl
  unfold gJoin
  rw [e2]
  simp only [items?, Option.bind_some, strs?_map]
  rw [e, if_pos]
  rw [List.map_map, List.length_map, S_n, show ((fun x : PySem.Str => x.length) ∘ S) = (fun x => x.length) from funext fun x => S_n x]
  exact h
theorem sum_ones {α : Type} (cs : List α) : (cs.map fun _ => 1).sum = cs.length := by
  induction cs with
  | nil => rfl
  | cons c cs ih => simp [ih]; omega
theorem join_signs {cs : List Nat} (h : cs.length ≤ 16777216) : gJoin (S []) [.lst (cs.map fun c => DD.str (S [c]))] = some (.str (S cs)) := by
  have := join_gen (s := []) (ps := cs.map fun c => [c]) (by
    rw [List.map_map]
    have := sum_ones cs
    simp only [Function.comp_def, List.length_cons, List.length_nil, Nat.zero_add, Nat.mul_zero, Nat.add_zero]
    rw [sum_ones]; exact h)
  rw [List.map_map, joinL_nil, flatten_ones] at this
  exact this
theorem splitL_len (c : Nat) : ∀ (l : List Nat), ∀ p ∈ splitL c l, p.length ≤ l.length
  | [], p, h => by simp [splitL] at h; subst h; simp
  | x :: xs, p, h => by
    have ih := splitL_len c xs
    unfold splitL at h
    split at h
    · rcases List.mem_cons.mp h with rfl | h
      · simp
      · have := ih p h; simp; omega
    · split at h
      · rename_i hd tl e
        rcases List.mem_cons.mp h with rfl | h
        · have := ih hd (by rw [e]; simp)
          simp; omega
        · have := ih p (by rw [e]; exact List.mem_cons_of_mem _ h)
          simp; omega
      · have : p = [x] := by simpa using h
        subst this; simp
theorem splitL_cnt (c : Nat) : ∀ (l : List Nat), (splitL c l).length ≤ l.length + 1
  | [] => by simp [splitL]
  | x :: xs => by
    have ih := splitL_cnt c xs
    unfold splitL
    split
    · simp; omega
    · split
      · rename_i e; rw [e] at ih; simp at ih ⊢; omega
      · simp
theorem splitL_cp (c : Nat) {l : List Nat} (h : Cp l) : ∀ p ∈ splitL c l, Cp p := by
  induction l with
  | nil => intro p hp; simp [splitL] at hp; subst hp; intro x hx; cases hx
  | cons x xs ih =>
    have hx : Cp xs := fun y hy => h y (List.mem_cons_of_mem _ hy)
    have ih := ih hx
    intro p hp
    unfold splitL at hp
    split at hp
    · rcases List.mem_cons.mp hp with rfl | hp
      · intro y hy; cases hy
      · exact ih p hp
    · split at hp
      · rename_i hd tl e
        rcases List.mem_cons.mp hp with rfl | hp
        · intro y hy
          rcases List.mem_cons.mp hy with rfl | hy
          · exact h _ List.mem_cons_self
          · exact ih hd (by rw [e]; simp) y hy
        · exact ih p (by rw [e]; exact List.mem_cons_of_mem _ hp)
      · have : p = [x] := by simpa using hp
        subst this
        intro y hy
        have : y = x := by simpa using hy
        subst this
        exact h _ List.mem_cons_self
end Np
set_option Elab.async false
set_option linter.all false
set_option maxRecDepth 100000
set_option maxHeartbeats 4000000
namespace Np
open PySem L2
section
variable {ρ ρ1 : PEnv} {τ τ1 : TS'} {δ : DS} {a b : DE} {d : DD} {x : Ex} {C : OC} {i j : Nat} {exm kit : PySem.Str → Option Bool} {ok : PySem.Str → Bool}
def eTryK (r : R Ct) (exm : PySem.Str → Option Bool) (i j : Nat) : R Ct := match r with
  | .ok (.xc x ρ1) τ1 => match exm x.cls with
    | some true => if i < ρ1.length then .ok (.nx ((ρ1.set j (some (.fr (.exc x.cls x.fs)))).set i none)) τ1 else .no
    | some false => .ok (.xc x ρ1) τ1
    | none => .no
  | r => r
def eTx (o : Option Bool) (x : Ex) (ρ1 : PEnv) (τ1 : TS') (i j : Nat) : R Ct := match o with
  | some true => if i < ρ1.length then .ok (.nx ((ρ1.set j (some (.fr (.exc x.cls x.fs)))).set i none)) τ1 else .no
  | some false => .ok (.xc x ρ1) τ1
  | none => .no
@[simp] theorem ev_TryK : dTryK exm i j δ ρ τ = eTryK (δ ρ τ) exm i j := id rfl
@[simp] theorem eTryK_nx : eTryK (.ok (.nx ρ) τ) exm i j = .ok (.nx ρ) τ := id rfl
@[simp] theorem eTryK_rt : eTryK (.ok (.rt d) τ) exm i j = .ok (.rt d) τ := id rfl
@[simp] theorem eTryK_bk : eTryK (.ok (.bk ρ) τ) exm i j = .ok (.bk ρ) τ := id rfl
@[simp] theorem eTryK_ct : eTryK (.ok (.ct ρ) τ) exm i j = .ok (.ct ρ) τ := id rfl
@[simp] theorem eTryK_xc : eTryK (.ok (.xc x ρ) τ) exm i j = eTx (exm x.cls) x ρ τ i j := id rfl
@[simp] theorem eTx_t : eTx (some true) x ρ τ i j = if i < ρ.length then .ok (.nx ((ρ.set j (some (.fr (.exc x.cls x.fs)))).set i none)) τ else .no := id rfl
@[simp] theorem eTx_f : eTx (some false) x ρ τ i j = .ok (.xc x ρ) τ := id rfl
@[simp] theorem tb_eq {A : PySem.Str} {v : Bool} {r : PySem.Str → Option Bool} : tb A v r A = some v := if_pos rfl
def eIsX (r : R DD) (kit : PySem.Str → Option Bool) : R DD := r.bind fun x τ1 => match x with
  | .exc C _ => R.of τ1 ((kit C).map .bl)
  | _ => .no
@[simp] theorem ev_IsX : dIsX kit a ρ τ = eIsX (a ρ τ) kit := id rfl
@[simp] theorem eIsX_ok {A : PySem.Str} {fs : List (PySem.Str × DD)} : eIsX (.ok (.exc A fs) τ) kit = R.of τ ((kit A).map .bl) := id rfl
def eFx (r : R DD) (ok : PySem.Str → Bool) (f : PySem.Str) : R DD := r.bind fun x τ1 => match x with
  | .exc C fs => if ok C = true then R.of τ1 (fs.lookup f) else .no
  | _ => .no
@[simp] theorem ev_Fx {f : PySem.Str} : dFx ok f a ρ τ = eFx (a ρ τ) ok f := id rfl
@[simp] theorem eFx_ok {A f : PySem.Str} {fs : List (PySem.Str × DD)} : eFx (.ok (.exc A fs) τ) ok f = if ok A = true then R.of τ (fs.lookup f) else .no := id rfl
@[simp] theorem gIsN_x {k : Bool} {A : PySem.Str} {fs : List (PySem.Str × DD)} : gIsN k (.exc A fs) .non = some (.bl k) := id rfl
@[simp] theorem gIsN_o {k : Bool} {A : PySem.Str} {fs : List (PySem.Str × DD)} : gIsN k (.obj A fs) .non = some (.bl k) := id rfl
@[simp] theorem gIsN_d {k : Bool} {fs : List (Key × DD)} : gIsN k (.dic fs) .non = some (.bl k) := id rfl
@[simp] theorem gIsi_d {T : String} {fs : List (Key × DD)} : gIsi T (.dic fs) = some (.bl (isT T "dict")) := id rfl
@[simp] theorem R.nox_ex {α : Type} {x : Ex} : (R.ex x τ : R α).nox = .no := id rfl
def eOrU (r : R DD) (b : DE) (ρ : PEnv) : R DD := r.bind fun x τ1 => (R.of τ1 (tru x)).bind fun k τ2 => if k = true then .ok x τ2 else b ρ τ2
def eAndU (r : R DD) (b : DE) (ρ : PEnv) : R DD := r.bind fun x τ1 => (R.of τ1 (tru x)).bind fun k τ2 => if k = true then b ρ τ2 else .ok x τ2
def eOrU2 (o : Option Bool) (x : DD) (b : DE) (ρ : PEnv) (τ : TS') : R DD := (R.of τ o).bind fun k τ2 => if k = true then .ok x τ2 else b ρ τ2
def eAndU2 (o : Option Bool) (x : DD) (b : DE) (ρ : PEnv) (τ : TS') : R DD := (R.of τ o).bind fun k τ2 => if k = true then b ρ τ2 else .ok x τ2
@[simp] theorem ev_OrU : dOrU a b ρ τ = eOrU (a ρ τ) b ρ := id rfl
@[simp] theorem ev_AndU : dAndU a b ρ τ = eAndU (a ρ τ) b ρ := id rfl
@[simp] theorem eOrU_ok : eOrU (.ok d τ) b ρ = eOrU2 (tru d) d b ρ τ := id rfl
@[simp] theorem eAndU_ok : eAndU (.ok d τ) b ρ = eAndU2 (tru d) d b ρ τ := id rfl
@[simp] theorem eOrU2_t : eOrU2 (some true) d b ρ τ = .ok d τ := id rfl
@[simp] theorem eOrU2_f : eOrU2 (some false) d b ρ τ = b ρ τ := id rfl
@[simp] theorem eAndU2_t : eAndU2 (some true) d b ρ τ = b ρ τ := id rfl
@[simp] theorem eAndU2_f : eAndU2 (some false) d b ρ τ = .ok d τ := id rfl
theorem forL_nm {xs : List DD} : forL (.nm i) δ (d :: xs) ρ τ = eTurn (δ (ρ.set i (some (.fr d))) τ) (.nm i) δ xs := forL_cons tgF_nm
def eTrF (r : R OC) : R OC := r.bind fun c τ1 => match ocT c with
  | .nd k ts => .ok (.tr k ts) τ1
  | .fr _ => .no
@[simp] theorem ev_TrF {φ : PEnv → TS' → R OC} : dTrF φ ρ τ = eTrF (φ ρ τ) := id rfl
@[simp] theorem eTrF_l {xs : List DD} : eTrF (.ok (.lst xs) τ) = .ok (.tr .lst (xs.map .fr)) τ := id rfl
@[simp] theorem ocT_l {xs : List DD} : ocT (.lst xs) = .nd .lst (xs.map .fr) := id rfl
@[simp] theorem ocT_t {k : Kd} {ts : List OT} : ocT (.tr k ts) = .nd k ts := id rfl
def eAppT (o : Option (Option PV)) (i : Nat) (φ : PEnv → TS' → R OC) (ρ : PEnv) (τ : TS') : R Ct := match o with
  | some (some (.ow (.tr .lst ts))) => stE (φ ρ τ) ρ fun c τ1 => if ts.length < sizeLine then .ok (.nx (ρ.set i (some (.ow (.tr .lst (ts ++ [ocT c])))))) τ1 else .no
  | _ => .no
def eAppT2 (r : R OC) (i : Nat) (ts : List OT) (ρ : PEnv) : R Ct := stE r ρ fun c τ1 => if ts.length < sizeLine then .ok (.nx (ρ.set i (some (.ow (.tr .lst (ts ++ [ocT c])))))) τ1 else .no
@[simp] theorem ev_AppT {φ : PEnv → TS' → R OC} : dAppT i φ ρ τ = eAppT ρ[i]? i φ ρ τ := id rfl
@[simp] theorem eAppT_ok {φ : PEnv → TS' → R OC} {ts : List OT} : eAppT (some (some (.ow (.tr .lst ts)))) i φ ρ τ = eAppT2 (φ ρ τ) i ts ρ := id rfl
@[simp] theorem eAppT2_ok {ts : List OT} : eAppT2 (.ok C τ) i ts ρ = if ts.length < 16777216 then .ok (.nx (ρ.set i (some (.ow (.tr .lst (ts ++ [ocT C])))))) τ else .no := by
  show (if ts.length < sizeLine then _ else _) = _
  rw [sizeLine_eq]
def eAppL (o : Option (Option PV)) (i : Nat) (e : DE) (ρ : PEnv) (τ : TS') : R Ct := match o with
  | some (some (.ow (.tr .lst ts))) => stE (e ρ τ) ρ fun d τ1 => if ts.length < sizeLine then .ok (.nx (ρ.set i (some (.ow (.tr .lst (ts ++ [.fr d])))))) τ1 else .no
  | _ => .no
def eAppL2 (r : R DD) (i : Nat) (ts : List OT) (ρ : PEnv) : R Ct := stE r ρ fun d τ1 => if ts.length < sizeLine then .ok (.nx (ρ.set i (some (.ow (.tr .lst (ts ++ [.fr d])))))) τ1 else .no
@[simp] theorem ev_AppL : dAppL i a ρ τ = eAppL ρ[i]? i a ρ τ := id rfl
@[simp] theorem eAppL_ok {ts : List OT} : eAppL (some (some (.ow (.tr .lst ts)))) i a ρ τ = eAppL2 (a ρ τ) i ts ρ := id rfl
@[simp] theorem eAppL2_ok {ts : List OT} : eAppL2 (.ok d τ) i ts ρ = if ts.length < 16777216 then .ok (.nx (ρ.set i (some (.ow (.tr .lst (ts ++ [.fr d])))))) τ else .no := by
  show (if ts.length < sizeLine then _ else _) = _
  rw [sizeLine_eq]
def eAppIx (o : Option (Option PV)) (i : Nat) (k e : DE) (ρ : PEnv) (τ : TS') : R Ct := match o with
  | some (some (.ow (.tr .lst ts))) => stE (k ρ τ) ρ fun n τ1 => match n with
    | .int n => match ixN ts.length n with
      | some j => match ts[j]? with
        | some (.nd .lst us) => stE (e ρ τ1) ρ fun d τ2 => if us.length < sizeLine then .ok (.nx (ρ.set i (some (.ow (.tr .lst (ts.set j (.nd .lst (us ++ [.fr d])))))))) τ2 else .no
        | _ => .no
      | none => .no
    | _ => .no
  | _ => .no
@[simp] theorem ev_AppIx {k : DE} : dAppIx i k a ρ τ = eAppIx ρ[i]? i k a ρ τ := id rfl
/-- x[-1].append(d) -/
theorem eAppIx_last {k : DE} {ts : List OT} {us : List OT} {τ2 : TS'} (hk : k ρ τ = .ok (.int (-1)) τ1) (he : a ρ τ1 = .ok d τ2) (hu : us.length < 16777216) : eAppIx (some (some (.ow (.tr .lst (ts ++ [.nd .lst us]))))) i k a ρ τ = .ok (.nx (ρ.set i (some (.ow (.tr .lst (ts ++ [.nd .lst (us ++ [.fr d])])))))) τ2 := by
  have e1 : ixN (ts ++ [OT.nd .lst us]).length (-1) = some ts.length := by
    unfold ixN
    rw [List.length_append]
    simp
    omega
  unfold eAppIx
  simp only [hk, stE_ok, e1]
  rw [show (ts ++ [OT.nd .lst us])[ts.length]? = some (.nd .lst us) by simp]
  simp only [he, stE_ok]
  rw [sizeLine_eq, if_pos hu, show (ts ++ [OT.nd .lst us]).set ts.length (.nd .lst (us ++ [.fr d])) = ts ++ [.nd .lst (us ++ [.fr d])] by simp]
@[simp] theorem ocD_t {k : Kd} {ts : List OT} : ocD (.tr k ts) = otD (.nd k ts) := id rfl
theorem otD_l {ts : List OT} : otD (.nd .lst ts) = .lst (otDs ts) := by rw [otD]
theorem otDs_map {α : Type} {f : α → OT} {g : α → DD} (h : ∀ x, otD (f x) = g x) : ∀ xs : List α, otDs (xs.map f) = xs.map g
  | [] => by rw [List.map_nil, otDs]; rfl
  | x :: xs => by rw [List.map_cons, otDs, h, otDs_map h xs]; rfl
@[simp] theorem gRepl_eq {y z w : PySem.Str} : gRepl y z (.str w) = if w.length + (w.length + 1) * z.length ≤ 16777216 then some (.str (Txt.replace w y z)) else none := id rfl
@[simp] theorem pickL_nil {α : Type} {dv us ws : List α} : pickL dv [] us ws = [] := id rfl
@[simp] theorem pickL_a0 {α : Type} {dv us ws : List α} {u : α} {ix : List Ix} : pickL dv (.a 0 :: ix) (u :: us) ws = u :: pickL dv ix (u :: us) ws := id rfl
/-- lists of texts -/
def sL (ps : List (List Nat)) : List DD := ps.map fun p => .str (S p)
@[simp] theorem sL_nil : sL [] = [] := id rfl
@[simp] theorem sL_cons {p : List Nat} {ps : List (List Nat)} : sL (p :: ps) = .str (S p) :: sL ps := id rfl
@[simp] theorem sL_app {ps qs : List (List Nat)} : sL (ps ++ qs) = sL ps ++ sL qs := by unfold sL; rw [List.map_append]
@[simp] theorem sL_len {ps : List (List Nat)} : (sL ps).length = ps.length := by unfold sL; rw [List.length_map]
theorem split_sL (l : List Nat) (c : Nat) : (Txt.split (S l) (S [c])).map DD.str = sL (splitL c l) := by rw [split_S, List.map_map]; rfl
theorem join_sL {s : List Nat} {ps : List (List Nat)} (h : (ps.map (·.length)).sum + ps.length * s.length ≤ 16777216) : gJoin (S s) [.lst (sL ps)] = some (.str (S (joinL s ps))) := join_gen h
theorem cutL_sL {ps : List (List Nat)} {lo hi : Option Int} : cutL (sL ps) lo hi = sL (cutL ps lo hi) := by
  unfold cutL sL
  rw [List.length_map, List.map_take, List.map_drop]
theorem enumD_get {ds : List DD} {k : Nat} {d : DD} (h : (enumD ds)[k]? = some d) : ∃ x, ds[k]? = some x ∧ d = .tup [.int (k : Nat), x] := by
  unfold enumD at h
  rw [List.getElem?_mapIdx] at h
  obtain ⟨x, h1, h2⟩ := Option.map_eq_some_iff.mp h
  exact ⟨x, h1, h2.symm⟩
theorem enumD_len {ds : List DD} : (enumD ds).length = ds.length := by unfold enumD; rw [List.length_mapIdx]
theorem tgF_two {i j : Nat} {x y : DD} : tgF (.tp [.nm i, .nm j]) (.tup [x, y]) ρ = some ((ρ.set i (some (.fr x))).set j (some (.fr y))) := by simp
/-- blanks -/
theorem mul_one (c : Nat) (n : Nat) : Txt.mul (S [c]) (n : Int) = S (List.replicate n c) := by
  rw [S_of (Txt.mul (S [c]) (n : Int)), toList_mul, S_l]
  congr 1
  induction n with
  | zero => rfl
  | succ n ih => rw [List.replicate_succ, List.flatten_cons, ih, List.replicate_succ]; rfl
theorem cutL_init {α : Type} {xs : List α} : cutL xs none (some (-1)) = xs.dropLast := by
  unfold cutL HT.sIx
  simp only
  rw [if_pos (by omega), List.drop_zero, Nat.sub_zero, List.dropLast_eq_take]
  congr 1
  omega
theorem cutL_last {α : Type} {xs : List α} : cutL xs (some (-1)) none = xs.drop (xs.length - 1) := by
  unfold cutL HT.sIx
  simp only
  rw [if_pos (by omega), show (-1 + (xs.length : Int)).toNat = xs.length - 1 by omega]
  exact List.take_of_length_le (by rw [List.length_drop]; omega)
def ljL (w : Nat) (l : List Nat) : List Nat := l ++ List.replicate (w - l.length) 32
theorem ljust_S (l : List Nat) (w : Nat) : Txt.ljust (S l) (w : Int) = S (ljL w l) := by
  unfold Txt.ljust ljL
  rw [S_n]
  split
  · rename_i h
    rw [show w - l.length = 0 by omega]
    simp
  · rw [S_of (Builtin.Str.padded _ _ _ _)]
    congr 1
    show (Array.replicate 0 32 ++ (S l).cps ++ Array.replicate ((w : Int).toNat - l.length) 32).toList = _
    simp [S]
def Cps (ps : List (List Nat)) : Prop := ∀ p ∈ ps, Cp p
theorem Cps.app {ps qs : List (List Nat)} (h : Cps ps) (k : Cps qs) : Cps (ps ++ qs) := fun p hp => (List.mem_append.mp hp).elim (h p) (k p)
theorem Cps.nil : Cps [] := fun p hp => by cases hp
theorem Cps.one {p : List Nat} (h : Cp p) : Cps [p] := fun q hq => by rw [List.mem_singleton.mp hq]; exact h
theorem ne_nil_sL {ps : List (List Nat)} (h : Cps ps) : gNeD (.lst (sL ps)) (.lst []) = some (.bl (!ps.isEmpty)) := ne_nil_strs (f := fun p => p) h
theorem Cp.join {s : List Nat} (hs : Cp s) : ∀ {ps : List (List Nat)}, Cps ps → Cp (joinL s ps)
  | [], _ => Cp.nil
  | [x], h => h x (by simp)
  | x :: y :: r, h => ((h x (by simp)).app hs).app (Cp.join hs fun p hp => h p (List.mem_cons_of_mem _ hp))
theorem Cp.rep {c : Nat} (h : c < 1114112) (n : Nat) : Cp (List.replicate n c) := fun x hx => by rw [List.eq_of_mem_replicate hx]; exact h
theorem split_weight' (c : Nat) : ∀ l : List Nat, ((splitL c l).map (·.length)).sum + (splitL c l).length = l.length + 1
  | [] => by simp [splitL]
  | x :: xs => by
    have ih := split_weight' c xs
    have hne := splitL_ne c xs
    unfold splitL
    split
    · simp; omega
    · cases h : splitL c xs with
      | nil => exact absurd h hne
      | cons a b => rw [h] at ih; simp at ih ⊢; omega
end
end Np
set_option Elab.async false
set_option linter.all false
set_option maxRecDepth 100000
set_option maxHeartbeats 4000000
namespace Np
open PySem L2
section
variable {ρ : PEnv} {τ : TS'} {a b r : DA} {e : DE} {as bs : List DD} {n m : Nat} {cls f : PySem.Str} {names : List PySem.Str} {ix : List Ix}
def eMk1 (r : R (List DD)) (n m : Nat) (cls : PySem.Str) (names : List PySem.Str) (ix : List Ix) (b : DA) (ρ : PEnv) : R DD := r.bind fun as τ1 => (b ρ τ1).bind fun bs τ2 =>
  if as.length = n ∧ bs.length = m ∧ (pickL [] ix as bs).length = names.length then .ok (mkD cls names ix as bs) τ2 else .no
def eMk2 (r : R (List DD)) (n m : Nat) (cls : PySem.Str) (names : List PySem.Str) (ix : List Ix) (as : List DD) : R DD := r.bind fun bs τ2 =>
  if as.length = n ∧ bs.length = m ∧ (pickL [] ix as bs).length = names.length then .ok (mkD cls names ix as bs) τ2 else .no
@[simp] theorem ev_MkN : dMkN n m cls names ix a b ρ τ = eMk1 (a ρ τ) n m cls names ix b ρ := id rfl
@[simp] theorem eMk1_ok : eMk1 (.ok as τ) n m cls names ix b ρ = eMk2 (b ρ τ) n m cls names ix as := id rfl
@[simp] theorem eMk2_ok : eMk2 (.ok bs τ) n m cls names ix as = if as.length = n ∧ bs.length = m ∧ (pickL [] ix as bs).length = names.length then .ok (mkD cls names ix as bs) τ else .no := id rfl
def fldD (cls f : PySem.Str) : DD → Option DD
  | .obj C fs => if C = cls then fs.lookup f else none
  | _ => none
@[simp] theorem ev_Fld : dFld cls f e ρ τ = eUn (e ρ τ) (fldD cls f) := by
  unfold dFld eUn
  congr 1
  funext x τ1
  unfold fldD
  cases x <;> first | rfl | (dsimp only [R.of]; split <;> rfl)
theorem fldD_eq {fs : List (PySem.Str × DD)} : fldD cls f (.obj cls fs) = fs.lookup f := by
  show (if cls = cls then fs.lookup f else none) = _
  rw [if_pos rfl]
def eEnF1 (r : R (List DD)) (b : DA) (ρ : PEnv) : R (List DD) := r.bind fun x τ1 => (b ρ τ1).bind fun y τ2 => match x, y with
  | [.lst ds], [.int k0] => if -(2 ^ 63) ≤ k0 ∧ k0 < 2 ^ 63 then .ok (enumF k0 ds) τ2 else .no
  | _, _ => .no
def eEnF2 (r : R (List DD)) (x : List DD) : R (List DD) := r.bind fun y τ2 => match x, y with
  | [.lst ds], [.int k0] => if -(2 ^ 63) ≤ k0 ∧ k0 < 2 ^ 63 then .ok (enumF k0 ds) τ2 else .no
  | _, _ => .no
@[simp] theorem ev_IEnumF : dIEnumF a b ρ τ = eEnF1 (a ρ τ) b ρ := id rfl
@[simp] theorem eEnF1_ok : eEnF1 (.ok as τ) b ρ = eEnF2 (b ρ τ) as := id rfl
@[simp] theorem eEnF2_ok {ds : List DD} {k0 : Int} : eEnF2 (.ok [.int k0] τ) [.lst ds] = if -(2 ^ 63) ≤ k0 ∧ k0 < 2 ^ 63 then .ok (enumF k0 ds) τ else .no := id rfl
def rg3 : List DD → Option (List DD)
  | [.int i, .int j, .int c] => if RgC i j c (Builtin.Range.rangeSize i j c).toNat then some (rangeC i c (Builtin.Range.rangeSize i j c).toNat) else none
  | _ => none
@[simp] theorem ev_IR3 : dIR3 r ρ τ = eUn (r ρ τ) rg3 := by
  unfold dIR3 eUn
  congr 1
  funext x τ1
  unfold rg3
  rcases x with _ | ⟨d, _ | ⟨e, _ | ⟨f, _ | ⟨g, x⟩⟩⟩⟩
  · rfl
  · cases d <;> rfl
  · cases d <;> cases e <;> rfl
  · cases d <;> cases e <;> cases f <;> first | rfl | (dsimp only [R.of]; split <;> rfl)
  · cases d <;> cases e <;> cases f <;> rfl
@[simp] theorem c3_eq {g : DD → DD → DD → Option DD} {x y z : DD} : c3 g [x, y, z] = g x y z := id rfl
@[simp] theorem gMin3_eq {i j k : Int} : gMin3 (.int i) (.int j) (.int k) = some (.int (min3 i j k)) := id rfl
@[simp] theorem gSortI_ints (ns : List Int) : gSortI (.lst (ns.map DD.int)) = some (.lst ((sortI ns).map DD.int)) := by
  have e : ints? (ns.map DD.int) = some ns := by
    induction ns with
    | nil => rfl
    | cons n ns ih => rw [List.map_cons, ints?, ih]; rfl
  show (ints? (ns.map DD.int)).map _ = _
  rw [e]
  rfl
end
end Np
set_option Elab.async false
set_option linter.all false
set_option maxRecDepth 100000
set_option maxHeartbeats 4000000
namespace Np
open PySem PySem.Spec PyProof.Rows L2
section
variable {ρ : PEnv} {τ τ' : TS'} {a b e : DE} {r : DA} {ps qs : DPs} {k n m : Nat} {F : Fn} {FI : FnI} {FO : FnO} {g : List PV → List PV → List PV} {as bs : List PV} {cls mm f : PySem.Str} {fs gs : List (PySem.Str × DD)} {d x y : DD}
noncomputable def eMkP2 (r : R (List PV)) (k n m : Nat) (F : FnI) (g : List PV → List PV → List PV) (as : List PV) : R DD := r.bind fun bs τ2 => if as.length = n ∧ bs.length = m ∧ (g as bs).length + 1 = k then allX F (g as bs) τ2 else .no
noncomputable def eMkP1 (r : R (List PV)) (k n m : Nat) (F : FnI) (g : List PV → List PV → List PV) (b : DPs) (ρ : PEnv) : R DD := r.bind fun as τ1 => eMkP2 (b ρ τ1) k n m F g as
@[simp] theorem ev_MkP : dMkP k n m FI g ps qs ρ τ = eMkP1 (ps ρ τ) k n m FI g qs ρ := id rfl
@[simp] theorem eMkP1_ok : eMkP1 (.ok as τ) k n m FI g qs ρ = eMkP2 (qs ρ τ) k n m FI g as := id rfl
@[simp] theorem eMkP2_ok : eMkP2 (.ok bs τ) k n m FI g as = if as.length = n ∧ bs.length = m ∧ (g as bs).length + 1 = k then allX FI (g as bs) τ else .no := id rfl
noncomputable def eMkN2 (r : R (List PV)) (k n m : Nat) (F : FnI) (g : List PV → List PV → List PV) (as : List PV) : R DD := r.bind fun bs τ2 => if as.length = n ∧ bs.length = m ∧ (g as bs).length + 1 = k then (allX F (g as bs) τ2).nox else .no
noncomputable def eMkN1 (r : R (List PV)) (k n m : Nat) (F : FnI) (g : List PV → List PV → List PV) (b : DPs) (ρ : PEnv) : R DD := r.bind fun as τ1 => eMkN2 (b ρ τ1) k n m F g as
@[simp] theorem ev_MkN' : dMkN' k n m FI g ps qs ρ τ = eMkN1 (ps ρ τ) k n m FI g qs ρ := id rfl
@[simp] theorem eMkN1_ok : eMkN1 (.ok as τ) k n m FI g qs ρ = eMkN2 (qs ρ τ) k n m FI g as := id rfl
@[simp] theorem eMkN2_ok : eMkN2 (.ok bs τ) k n m FI g as = if as.length = n ∧ bs.length = m ∧ (g as bs).length + 1 = k then (allX FI (g as bs) τ).nox else .no := id rfl
def eMeN2 (r : R (List PV)) (k : Nat) (F : Fn) (x : DD) : R DD := r.bind fun as τ2 => if as.length + 1 = k then (F (.fr x :: as) τ2).nox else .no
def eMeN1 (r : R DD) (k : Nat) (cls m : PySem.Str) (F : Fn) (ps : DPs) (ρ : PEnv) : R DD := r.bind fun x τ1 => match x with
  | .obj C fs => if C = cls ∧ fs.lookup m = none then eMeN2 (ps ρ τ1) k F (.obj C fs) else .no
  | _ => .no
@[simp] theorem ev_MethN : dMethN k cls mm F a ps ρ τ = eMeN1 (a ρ τ) k cls mm F ps ρ := by
  unfold dMethN eMeN1
  congr 1
@[simp] theorem eMeN1_ok : eMeN1 (.ok (.obj cls fs) τ) k cls mm F ps ρ = if fs.lookup mm = none then eMeN2 (ps ρ τ) k F (.obj cls fs) else .no := by
  simp only [eMeN1, R.bind_ok, true_and]
@[simp] theorem eMeN2_ok : eMeN2 (.ok as τ) k F x = if as.length + 1 = k then (F (.fr x :: as) τ).nox else .no := id rfl
def eMeO2 (r : R (List PV)) (k : Nat) (F : FnO) (x : DD) : R OC := r.bind fun as τ2 => if as.length + 1 = k then (F (.fr x :: as) τ2).nox else .no
def eMeO1 (r : R DD) (k : Nat) (cls m : PySem.Str) (F : FnO) (ps : DPs) (ρ : PEnv) : R OC := r.bind fun x τ1 => match x with
  | .obj C fs => if C = cls ∧ fs.lookup m = none then eMeO2 (ps ρ τ1) k F (.obj C fs) else .no
  | _ => .no
@[simp] theorem ev_MethON : dMethON k cls mm FO a ps ρ τ = eMeO1 (a ρ τ) k cls mm FO ps ρ := by
  unfold dMethON eMeO1
  congr 1
@[simp] theorem eMeO1_ok : eMeO1 (.ok (.obj cls fs) τ) k cls mm FO ps ρ = if fs.lookup mm = none then eMeO2 (ps ρ τ) k FO (.obj cls fs) else .no := by
  simp only [eMeO1, R.bind_ok, true_and]
@[simp] theorem eMeO2_ok : eMeO2 (.ok as τ) k FO x = if as.length + 1 = k then (FO (.fr x :: as) τ).nox else .no := id rfl
def eSp (r : R (List DD)) (cls : PySem.Str) (F : Fn) (h : DD → TS' → R DD) : R DD := r.bind fun xs τ1 => match xs with
  | [.obj C fs] => if C = cls then (F [.fr (.obj C fs)] τ1).nox.bind h else .no
  | _ => .no
def hLen (d : DD) (τ2 : TS') : R DD := match d with
  | .int n => if 0 ≤ n ∧ n < 2 ^ 63 then .ok (.int n) τ2 else .no
  | _ => .no
def hStr (d : DD) (τ2 : TS') : R DD := match d with
  | .str z => .ok (.str z) τ2
  | _ => .no
def hBool (d : DD) (τ2 : TS') : R DD := match d with
  | .int n => if 0 ≤ n ∧ n < 2 ^ 63 then .ok (.bl (n != 0)) τ2 else .no
  | _ => .no
@[simp] theorem ev_LenO : dLenO cls F r ρ τ = eSp (r ρ τ) cls F hLen := id rfl
@[simp] theorem ev_StrO : dStrO cls F r ρ τ = eSp (r ρ τ) cls F hStr := id rfl
@[simp] theorem ev_BoolO : dBoolO cls F r ρ τ = eSp (r ρ τ) cls F hBool := id rfl
@[simp] theorem eSp_ok {h : DD → TS' → R DD} : eSp (.ok [.obj cls fs] τ) cls F h = (F [.fr (.obj cls fs)] τ).nox.bind h := if_pos rfl
@[simp] theorem hLen_ok {i : Int} : hLen (.int i) τ = if 0 ≤ i ∧ i < 9223372036854775808 then .ok (.int i) τ else .no := id rfl
@[simp] theorem hBool_ok {i : Int} : hBool (.int i) τ = if 0 ≤ i ∧ i < 9223372036854775808 then .ok (.bl (i != 0)) τ else .no := id rfl
@[simp] theorem hStr_ok {z : PySem.Str} : hStr (.str z) τ = .ok (.str z) τ := id rfl
def eEqO2 (r : R DD) (neg : Bool) (cls : PySem.Str) (F : Fn) (x : DD) : R DD := r.bind fun y τ2 => match x with
  | .obj C fs => if C = cls ∧ sideY cls y = true then (toB (F [.fr (.obj C fs), .fr y] τ2)).bind fun r τ3 => .ok (.bl (xor neg r)) τ3 else .no
  | _ => .no
def eEqO1 (r : R DD) (neg : Bool) (cls : PySem.Str) (F : Fn) (b : DE) (ρ : PEnv) : R DD := r.bind fun x τ1 => eEqO2 (b ρ τ1) neg cls F x
@[simp] theorem ev_EqO {neg : Bool} : dEqO neg cls F a b ρ τ = eEqO1 (a ρ τ) neg cls F b ρ := by
  unfold dEqO eEqO1
  congr 1
  funext x τ1
  unfold eEqO2
  congr 1
  funext y τ2
  cases x <;> first | rfl | skip
  dsimp only
  rename_i C fs
  by_cases h : C = cls ∧ sideY cls y = true
  · rw [if_pos h, if_pos h]
    generalize F [.fr (.obj C fs), .fr y] τ2 = R0
    cases R0 with
    | ok d t => cases d <;> rfl
    | ex _ _ => rfl
    | no => rfl
  · rw [if_neg h, if_neg h]
@[simp] theorem eEqO1_ok {neg : Bool} : eEqO1 (.ok x τ) neg cls F b ρ = eEqO2 (b ρ τ) neg cls F x := id rfl
@[simp] theorem eEqO2_ok {neg : Bool} : eEqO2 (.ok y τ) neg cls F (.obj cls fs) = if sideY cls y = true then (toB (F [.fr (.obj cls fs), .fr y] τ)).bind fun r τ3 => .ok (.bl (xor neg r)) τ3 else .no := by
  simp only [eEqO2, R.bind_ok, true_and]
@[simp] theorem toB_ok {z : Bool} : toB (.ok (.bl z) τ) = .ok z τ := id rfl
def eEqR2 (r : R DD) (cls : PySem.Str) (F : Fn) (y : DD) : R DD := r.bind fun x τ2 => match x with
  | .obj C fs => if C = cls ∧ thing y = true then (toB (F [.fr (.obj C fs), .fr y] τ2)).bind fun r τ3 => .ok (.bl r) τ3 else .no
  | _ => .no
def eEqR1 (r : R DD) (cls : PySem.Str) (F : Fn) (b : DE) (ρ : PEnv) : R DD := r.bind fun y τ1 => eEqR2 (b ρ τ1) cls F y
@[simp] theorem ev_EqR : dEqR cls F a b ρ τ = eEqR1 (a ρ τ) cls F b ρ := id rfl
@[simp] theorem eEqR1_ok : eEqR1 (.ok y τ) cls F b ρ = eEqR2 (b ρ τ) cls F y := id rfl
@[simp] theorem eEqR2_ok : eEqR2 (.ok (.obj cls fs) τ) cls F y = if thing y = true then (toB (F [.fr (.obj cls fs), .fr y] τ)).bind fun r τ3 => .ok (.bl r) τ3 else .no := by
  simp only [eEqR2, R.bind_ok, true_and]
noncomputable def eInO2 (r : R DD) (neg : Bool) (cls : PySem.Str) (F : Fn) (x : DD) : R DD := r.bind fun y τ2 => match x, y with
  | .obj C fs, .lst ds => if C = cls then (inD cls F (.obj C fs) ds τ2).bind fun r τ3 => .ok (.bl (xor neg r)) τ3 else .no
  | _, _ => .no
noncomputable def eInO1 (r : R DD) (neg : Bool) (cls : PySem.Str) (F : Fn) (b : DE) (ρ : PEnv) : R DD := r.bind fun x τ1 => eInO2 (b ρ τ1) neg cls F x
@[simp] theorem ev_InO {neg : Bool} : dInO neg cls F a b ρ τ = eInO1 (a ρ τ) neg cls F b ρ := id rfl
@[simp] theorem eInO1_ok {neg : Bool} : eInO1 (.ok x τ) neg cls F b ρ = eInO2 (b ρ τ) neg cls F x := id rfl
@[simp] theorem eInO2_ok {neg : Bool} {ds : List DD} : eInO2 (.ok (.lst ds) τ) neg cls F (.obj cls fs) = (inD cls F (.obj cls fs) ds τ).bind fun r τ3 => .ok (.bl (xor neg r)) τ3 := if_pos rfl
@[simp] theorem inD_nil : inD cls F x [] τ = .ok false τ := id rfl
@[simp] theorem gIsO_obj : gIsO cls (.obj cls fs) = some (.bl true) := if_pos rfl
@[simp] theorem gIsO_non : gIsO cls .non = some (.bl false) := id rfl
@[simp] theorem gIsO_int {i : Int} : gIsO cls (.int i) = some (.bl false) := id rfl
@[simp] theorem gIsO_str {i : PySem.Str} : gIsO cls (.str i) = some (.bl false) := id rfl
@[simp] theorem gIsO_lst {i : List DD} : gIsO cls (.lst i) = some (.bl false) := id rfl
@[simp] theorem gIsO_tup {i : List DD} : gIsO cls (.tup i) = some (.bl false) := id rfl
@[simp] theorem side_obj : sideY cls (.obj cls fs) = true := decide_eq_true rfl
@[simp] theorem side_non : sideY cls .non = true := id rfl
@[simp] theorem side_int {i : Int} : sideY cls (.int i) = true := id rfl
@[simp] theorem side_str {i : PySem.Str} : sideY cls (.str i) = true := id rfl
@[simp] theorem side_lst {i : List DD} : sideY cls (.lst i) = true := id rfl
@[simp] theorem side_tup {i : List DD} : sideY cls (.tup i) = true := id rfl
@[simp] theorem th_non : thing .non = true := id rfl
@[simp] theorem th_int {i : Int} : thing (.int i) = true := id rfl
@[simp] theorem th_str {i : PySem.Str} : thing (.str i) = true := id rfl
@[simp] theorem th_lst {i : List DD} : thing (.lst i) = true := id rfl
@[simp] theorem th_tup {i : List DD} : thing (.tup i) = true := id rfl
@[simp] theorem gSlT_eq {ds : List DD} {lo hi : Option Int} : gSlT (.tup ds) lo hi = some (.tup (cutL ds lo hi)) := id rfl
@[simp] theorem gIsB_eq {p q : Bool} : gIsB (.bl p) (.bl q) = some (.bl (decide (p = q))) := id rfl
@[simp] theorem gLenRg1_eq {i : Int} : gLenRg1 (.int i) = if (i.toNat : Int) < 9223372036854775808 then some (.int i.toNat) else none := id rfl
def eDropApp (r : R OC) (ρ : PEnv) : R Ct := stE r ρ fun c τ1 => match c with
  | .lst xs => if xs.length < sizeLine then .ok (.nx ρ) τ1 else .no
  | _ => .no
@[simp] theorem ev_DropApp {φ : PEnv → TS' → R OC} : dDropApp φ ρ τ = eDropApp (φ ρ τ) ρ := id rfl
@[simp] theorem eDropApp_ok {xs : List DD} : eDropApp (.ok (.lst xs) τ) ρ = if xs.length < 16777216 then .ok (.nx ρ) τ else .no := by
  show (if xs.length < sizeLine then _ else _) = _
  rfl
@[simp] theorem ev_IEnd : dIEnd cls ρ τ fs = .ok (.obj cls fs) τ := id rfl
def eISet (r : R DD) (f : PySem.Str) (t : DI') (ρ : PEnv) (fs : List (PySem.Str × DD)) : R DD := r.bind fun d τ1 => if fs.length < 1000 then t ρ τ1 (putD f d fs) else .no
@[simp] theorem ev_ISet {t : DI'} : dISet f e t ρ τ fs = eISet (e ρ τ) f t ρ fs := id rfl
@[simp] theorem eISet_ok {t : DI'} : eISet (.ok d τ) f t ρ fs = if fs.length < 1000 then t ρ τ (putD f d fs) else .no := id rfl
@[simp] theorem putD_nil : putD f d [] = [(f, d)] := id rfl
theorem putD_ne {g : PySem.Str} (h : g ≠ f) : putD f d ((g, x) :: fs) = (g, x) :: putD f d fs := if_neg h
@[simp] theorem fixR_ok : fixR τ' (.ok d τ) = .ok d (fixT τ' τ) := id rfl
theorem ev_bodyI {pre : DS} {t : DI'} {z : Addr} {as : List PV} : bodyI n pre t z as τ = match pre (startP n (.fr (.raw z) :: as)) τ with
  | .ok (.nx ρ) τ' => bodyI2 t z τ ρ τ' ρ[0]?
  | .ok (.xc e _) τ' => .ex e (fixT τ τ')
  | _ => .no := id rfl
@[simp] theorem bodyI2_ok {t : DI'} {z : Addr} : bodyI2 t z τ ρ τ' (some (some (.fr (.raw z)))) = fixR τ (t ρ τ' []) := if_pos rfl
@[simp] theorem fixT_same : fixT τ τ = τ := by cases τ <;> rfl
end
mutual
theorem Rp.func {K : PySem.W.Frag} {cm : CM} {G : GH} : ∀ {v : V} {d e : DD}, Rp K cm G v d → Rp K cm G v e → plainD d = true → plainD e = true → d = e
  | _, _, _, .non, .non, _, _ => rfl
  | _, _, _, .bl _, .bl _, _, _ => rfl
  | _, _, _, .int _, .int _, _, _ => rfl
  | _, _, _, .str _, .str _, _, _ => rfl
  | _, _, _, .lst h r, e, p, q => by
    cases e with
    | lst h' r' => rw [h] at h'; cases h'; rw [RpA.func r r' p q]
    | tup h' _ => rw [h] at h'; cases h'
    | dic h' _ => rw [h] at h'; cases h'
    | obj h' _ => rw [h] at h'; cases h'
    | exc h' _ _ _ _ => cases q
    | raw _ => cases q
    | ptr _ => cases q
    | tux _ _ _ => cases q
  | _, _, _, .tup h r, e, p, q => by
    cases e with
    | tup h' r' => rw [h] at h'; cases h'; rw [RpA.func r r' p q]
    | lst h' _ => rw [h] at h'; cases h'
    | dic h' _ => rw [h] at h'; cases h'
    | obj h' _ => rw [h] at h'; cases h'
    | exc h' _ _ _ _ => cases q
    | raw _ => cases q
    | ptr _ => cases q
    | tux _ _ _ => cases q
  | _, _, _, .dic h r, e, p, q => by cases p
  | _, _, _, .obj h r, e, p, q => by cases p
  | _, _, _, .exc _ _ _ _ _, e, p, q => by cases p
  | _, _, _, .raw _, e, p, q => by cases p
  | _, _, _, .ptr _, e, p, q => by cases p
  | _, _, _, .tux _ _ _, e, p, q => by cases p
theorem RpA.func {K : PySem.W.Frag} {cm : CM} {G : GH} : ∀ {v : List V} {d e : List DD}, RpA K cm G v d → RpA K cm G v e → plainDs d = true → plainDs e = true → d = e
  | _, _, _, .nil, .nil, _, _ => rfl
  | _, _, _, .cons h r, .cons h' r', p, q => by
    unfold plainDs at p q
    rw [Bool.and_eq_true] at p q
    rw [Rp.func h h' p.1 q.1, RpA.func r r' p.2 q.2]
end
def plainFs : List (PySem.Str × DD) → Bool
  | [] => true
  | (_, d) :: r => plainD d && plainFs r
theorem RpF.func {K : PySem.W.Frag} {cm : CM} {G : GH} : ∀ {v : List (PySem.Str × V)} {d e : List (PySem.Str × DD)}, RpF K cm G v d → RpF K cm G v e → plainFs d = true → plainFs e = true → d = e
  | _, _, _, .nil, .nil, _, _ => rfl
  | _, _, _, .cons h r, .cons h' r', p, q => by
    unfold plainFs at p q
    rw [Bool.and_eq_true] at p q
    rw [Rp.func h h' p.1 q.1, RpF.func r r' p.2 q.2]
end Np
set_option Elab.async false
set_option linter.all false
set_option maxRecDepth 100000
namespace Np
open PySem PySem.Spec PyProof.Rows L2
section
variable {a b : DA} {ρ : PEnv} {τ : TS'} {as : List DD}
def eZpS1 (r : R (List DD)) (b : DA) (ρ : PEnv) : R (List DD) := r.bind fun x τ1 => (b ρ τ1).bind fun y τ2 => match x, y with
  | [.lst ds, .lst es], [.bl true] => if ds.length = es.length then .ok (zipD ds es) τ2 else .no
  | _, _ => .no
def eZpS2 (r : R (List DD)) (x : List DD) : R (List DD) := r.bind fun y τ2 => match x, y with
  | [.lst ds, .lst es], [.bl true] => if ds.length = es.length then .ok (zipD ds es) τ2 else .no
  | _, _ => .no
@[simp] theorem ev_IZipS : dIZipS a b ρ τ = eZpS1 (a ρ τ) b ρ := id rfl
@[simp] theorem eZpS1_ok : eZpS1 (.ok as τ) b ρ = eZpS2 (b ρ τ) as := id rfl
@[simp] theorem eZpS2_ok {ds es : List DD} : eZpS2 (.ok [.bl true] τ) [.lst ds, .lst es] = if ds.length = es.length then .ok (zipD ds es) τ else .no := id rfl
end
section
variable {ρ : PEnv} {τ : TS'} {a : DE} {F : Fn} {cls : PySem.Str} {fs : List (PySem.Str × DD)}
def eDropClr (r : R OC) (ρ : PEnv) : R Ct := stE r ρ fun c τ1 => match c with
  | .lst _ => .ok (.nx ρ) τ1
  | _ => .no
@[simp] theorem ev_DropClr {φ : PEnv → TS' → R OC} : dDropClr φ ρ τ = eDropClr (φ ρ τ) ρ := id rfl
@[simp] theorem eDropClr_ok {xs : List DD} : eDropClr (.ok (.lst xs) τ) ρ = .ok (.nx ρ) τ := id rfl
def hTru (d : DD) (τ2 : TS') : R Bool := match d with
  | .int n => if 0 ≤ n ∧ n < 2 ^ 63 then .ok (n != 0) τ2 else .no
  | _ => .no
def eTruO (r : R DD) (cls : PySem.Str) (F : Fn) : R Bool := r.bind fun x τ1 => match x with
  | .obj C fs => if C = cls then (F [.fr (.obj C fs)] τ1).nox.bind hTru else .no
  | _ => .no
@[simp] theorem ev_TruO : dTruO cls F a ρ τ = eTruO (a ρ τ) cls F := id rfl
@[simp] theorem eTruO_ok : eTruO (.ok (.obj cls fs) τ) cls F = (F [.fr (.obj cls fs)] τ).nox.bind hTru := if_pos rfl
@[simp] theorem hTru_ok {i : Int} : hTru (.int i) τ = if 0 ≤ i ∧ i < 9223372036854775808 then .ok (i != 0) τ else .no := id rfl
end
end Np
set_option Elab.async false
set_option linter.all false
set_option maxRecDepth 100000
namespace Np
open PySem PySem.Spec PyProof.Rows L2
section
variable {ρ : PEnv} {τ τ' : TS'} {e : DE} {ps qs : DPs} {i k n m : Nat} {FI : FnI} {g : List PV → List PV → List PV} {f : PySem.Str} {fs : List (PySem.Str × DD)} {d : DD}
def eISetV (r : R DD) (f : PySem.Str) (t : DI') (ρ : PEnv) (fs : List (PySem.Str × DD)) : R DD := r.bind fun d τ1 => if flatD d = true ∧ fs.length < 1000 then t ρ τ1 (putD f d fs) else .no
@[simp] theorem ev_ISetV {t : DI'} : dISetV f e t ρ τ fs = eISetV (e ρ τ) f t ρ fs := id rfl
@[simp] theorem eISetV_ok {t : DI'} : eISetV (.ok d τ) f t ρ fs = if flatD d = true ∧ fs.length < 1000 then t ρ τ (putD f d fs) else .no := id rfl
@[simp] theorem flatD_int {j : Int} : flatD (.int j) = true := id rfl
@[simp] theorem flatD_str {j : PySem.Str} : flatD (.str j) = true := id rfl
@[simp] theorem flatD_bl {j : Bool} : flatD (.bl j) = true := id rfl
@[simp] theorem flatD_non : flatD .non = true := id rfl
def eISetL (r : R OC) (f : PySem.Str) (t : DI') (ρ : PEnv) (fs : List (PySem.Str × DD)) : R DD := r.bind fun c τ1 => match c with
  | .lst ys => if ys.all flatD = true ∧ fs.length < 1000 then t ρ τ1 (putD f (.lst ys) fs) else .no
  | _ => .no
@[simp] theorem ev_ISetL {a : PEnv → TS' → R OC} {t : DI'} : dISetL f a t ρ τ fs = eISetL (a ρ τ) f t ρ fs := id rfl
@[simp] theorem eISetL_ok {ys : List DD} {t : DI'} : eISetL (.ok (.lst ys) τ) f t ρ fs = if ys.all flatD = true ∧ fs.length < 1000 then t ρ τ (putD f (.lst ys) fs) else .no := id rfl
noncomputable def eMkB (o : Option (Option PV)) (i k n m : Nat) (F : FnI) (g : List PV → List PV → List PV) (a b : DPs) (ρ : PEnv) (τ : TS') : R DD := match o with
  | some (some (.ow c)) => match dMkN' k n m F g a b (bor i c ρ) none with
    | .ok d _ => .ok d τ
    | _ => .no
  | _ => .no
def eMkB2 (r : R DD) (τ : TS') : R DD := match r with
  | .ok d _ => .ok d τ
  | _ => .no
@[simp] theorem ev_MkB : dMkB i k n m FI g ps qs ρ τ = eMkB ρ[i]? i k n m FI g ps qs ρ τ := id rfl
@[simp] theorem eMkB_ok {c : OC} : eMkB (some (some (.ow c))) i k n m FI g ps qs ρ τ = eMkB2 (dMkN' k n m FI g ps qs (bor i c ρ) none) τ := id rfl
@[simp] theorem eDrop_ex {x : Ex} : eDrop (.ex x τ) ρ = .ok (.xc x ρ) τ := id rfl
@[simp] theorem eMkB2_ok : eMkB2 (.ok d τ') τ = .ok d τ := id rfl
end
end Np
set_option Elab.async false
set_option linter.all false
set_option maxRecDepth 100000
namespace Np
open PySem PySem.Spec PyProof.Rows L2
section
variable {ρ : PEnv} {τ τ' : TS'} {e : DE} {i j : Nat}
def ePopA2 (r : Option (Nat × DD)) (xs : List DD) (i j : Nat) (ρ : PEnv) (τ : TS') : R Ct := match r with
  | some (k, y) => .ok (.nx ((ρ.set i (some (.ow (.lst (xs.eraseIdx k))))).set j (some (.fr y)))) τ
  | none => .no
def ePopA (o : Option (Option PV)) (r : R DD) (i j : Nat) (ρ : PEnv) : R Ct := match o with
  | some (some (.ow (.lst xs))) => stE r ρ fun d τ1 => match d with
    | .int n => ePopA2 (popD xs n) xs i j ρ τ1
    | _ => .no
  | _ => .no
@[simp] theorem ev_PopA : dPopA i j e ρ τ = ePopA ρ[i]? (e ρ τ) i j ρ := id rfl
@[simp] theorem ePopA_ok {xs : List DD} {n : Int} : ePopA (some (some (.ow (.lst xs)))) (.ok (.int n) τ) i j ρ = ePopA2 (popD xs n) xs i j ρ τ := id rfl
@[simp] theorem ePopA2_ok {k : Nat} {y : DD} {xs : List DD} : ePopA2 (some (k, y)) xs i j ρ τ = .ok (.nx ((ρ.set i (some (.ow (.lst (xs.eraseIdx k))))).set j (some (.fr y)))) τ := id rfl
@[simp] theorem gWords_eq {z : PySem.Str} : gWords z [] = if z.length + 2 ≤ 16777216 then some (.lst ((Txt.words z).map DD.str)) else none := by
  show (if z.length + 2 ≤ sizeLine then _ else _) = _
  rfl
end
end Np
set_option Elab.async false
set_option linter.all false
set_option maxRecDepth 100000
set_option maxHeartbeats 4000000
namespace Np
open PySem PySem.Spec PyProof.Rows L2
end Np
set_option Elab.async false
set_option linter.all false
set_option maxRecDepth 100000
set_option maxHeartbeats 4000000
namespace Np
open PySem PySem.Spec PyProof.Rows L2
def keysD (F : Fn) : List DD → Option (List PyData)
  | [] => some []
  | d :: ds => match F [.fr d] none with
    | .ok kd _ => match toPy kd, keysD F ds with
      | some p, some ps => some (p :: ps)
      | _, _ => none
    | _ => none
def keysOk (ps : List PyData) : Prop := ∀ p ∈ ps, (∀ q ∈ ps, PySem.W.alike p q = true) ∧ p.depth ≤ 64 ∧ p ≠ .none
def bestD (ps : List PyData) : Nat := argBest (fun i j => PySem.W.dataLt (ps.getD i .none) (ps.getD j .none)) (ps.length - 1)
open Classical in
noncomputable def gMinK (F : Fn) (ds : List DD) : Option DD := match keysD F ds with
  | some ps => if 0 < ds.length ∧ keysOk ps then ds[bestD ps]? else none
  | none => none
noncomputable def dMinK (F : Fn) (a : DA) : DE := fun ρ τ => (a ρ τ).bind fun xs τ1 => match xs with
  | [.lst ds] => R.of τ1 (gMinK F ds)
  | _ => .no
end Np
set_option Elab.async false
set_option linter.all false
set_option maxRecDepth 100000
set_option maxHeartbeats 4000000
namespace Np
open PySem PySem.Spec PyProof.Rows L2
section
variable {W : Wp} {Wx : L2.St → XK} {tr : TA} {δr : DA}
def dIZipA (a : DA) : DI := fun ρ τ => (a ρ τ).bind fun x τ1 => match x with
  | [.lst ds, .lst es] => .ok (zipD ds es) τ1
  | [.tup ds, .tup es] => .ok (zipD ds es) τ1
  | _ => .no
end
end Np
set_option Elab.async false
set_option linter.all false
set_option maxRecDepth 100000
set_option maxHeartbeats 4000000
namespace Np
open PySem PySem.Spec PyProof.Rows L2
section
variable {W : Wp} {Wx : L2.St → XK}
def clrI (i : Nat) (r : R Ct) : R Ct := match r with
  | .ok (.nx ρ) τ => .ok (.nx (ρ.set i none)) τ
  | .ok (.bk ρ) τ => .ok (.bk (ρ.set i none)) τ
  | .ok (.ct ρ) τ => .ok (.ct (ρ.set i none)) τ
  | .ok (.rt d) τ => .ok (.rt d) τ
  | _ => .no
def dTryH (exm : Str → Option Bool) (i : Nat) (δ δh : DS) : DS := fun ρ τ => match δ ρ τ with
  | .ok (.xc x ρ1) τ1 => match exm x.cls with
    | some true => clrI i (δh (ρ1.set i (some (.fr (.exc x.cls x.fs)))) τ1)
    | some false => .ok (.xc x ρ1) τ1
    | none => .no
  | r => r
end
end Np
set_option Elab.async false
set_option linter.all false
set_option maxRecDepth 100000
set_option maxHeartbeats 4000000
namespace Np
open PySem PySem.Spec PyProof.Rows L2
section
variable {W : Wp} {Wx : L2.St → XK} {tr tk : TA} {δr δk : DA}
def dIEnumT (a : DA) : DI := fun ρ τ => (a ρ τ).bind fun x τ1 => match x with
  | [.tup ds] => .ok (enumD ds) τ1
  | _ => .no
end
end Np
set_option Elab.async false
set_option linter.all false
set_option maxRecDepth 100000
set_option maxHeartbeats 4000000
namespace Np
open PySem PySem.Spec PyProof.Rows L2
def gMinD (ds : List DD) : Option DD := match ints? ds with
  | some [] => some .non
  | some (n :: ns) => some (.int (minL n ns))
  | none => none
def dMinD (a : DA) : DE := fun ρ τ => (a ρ τ).bind fun xs τ1 => match xs with
  | [.lst ds] => R.of τ1 (gMinD ds)
  | _ => .no
end Np
set_option Elab.async false
set_option linter.all false
set_option maxRecDepth 100000
set_option maxHeartbeats 4000000
namespace Np
open PySem PySem.Spec PyProof.Rows L2 LamX
/-- its own name is the parameter; the others are captured or of the module -/
structure LamS1 (p : Str) (sc scope : Scope) : Prop where
  kd : scope.kind = .function
  nc : scope.isCoroutine = false
  ng : scope.isGenerator = false
  nm : ∀ y ∈ scope.names, y.2 ≠ .cell ∧ (y.2 = .local → y.1 = p)
  pl : scope.names.lookup p = some .local
  fr : ∀ y ∈ scope.names, y.2 = .free → sc.names.lookup y.1 = some .cell ∨ sc.names.lookup y.1 = some .free
def lamS1B (p : Str) (sc scope : Scope) : Bool :=
  decide (scope.kind = .function) && !scope.isCoroutine && !scope.isGenerator && decide (scope.names.lookup p = some .local) && scope.names.all fun y => !decide (y.2 = .cell) && (!decide (y.2 = .local) || decide (y.1 = p)) && (!decide (y.2 = .free) || decide (sc.names.lookup y.1 = some .cell) || decide (sc.names.lookup y.1 = some .free))
theorem lamS1_of {p : Str} {sc scope : Scope} (h : lamS1B p sc scope = true) : LamS1 p sc scope := by
  unfold lamS1B at h
  simp only [Bool.and_eq_true, Bool.or_eq_true, Bool.not_eq_true', decide_eq_true_eq, decide_eq_false_iff_not, List.all_eq_true] at h
  obtain ⟨⟨⟨⟨a, b⟩, c⟩, d⟩, e⟩ := h
  refine ⟨a, b, c, fun y hy => ⟨(e y hy).1.1, fun z => (e y hy).1.2.elim (fun q => absurd z q) id⟩, d, fun y hy z => ?_⟩
  rcases (e y hy).2 with (q | q) | q
  · exact absurd z q
  · exact .inl q
  · exact .inr q
theorem LamS1.cap {X : Cx} {p : Str} {scope : Scope} (L : LamS1 p X.env.scope scope) (ok : X.Ok) : ∀ y ∈ scope.names, y.2 = .free → ∃ c, X.env.cells.lookup y.1 = some c :=
  fun y hy e => (L.fr y hy e).elim (fun k => ok.has _ (.inl k)) fun k => ok.has _ (.inr k)
section
variable {X : Cx} {pins : List (Addr × Obj)} {σ : L2.St} {H : Hp} {s : Shared}
theorem cx_no {P : Program} {w : World} {outer : List Env} {e : Value} {s' : Shared} (h : L2.CX P w outer H s E0 e s') : False := by
  obtain ⟨_, _, _, _, _, _, _, _, _, _, _, _, z⟩ := h
  exact z.elim
theorem lam_enter {A : Around} {outer : List Env} {E : XK} {scope : Scope} {f c' : Addr} {g : Heap} {tk i : Nat} {p : Str} {x : V} {u : Value} (I : Inv X pins σ H s) (L : LamS1 p X.env.scope scope) (e0 : Env0 X.prog X.w X.K X.mg X.base A outer s H) (hd : A.handled = none) (nd : X.N.Nodup) (hi : X.N[i]? = some p) (rx : RelV x u)
    (ns : g.Ns s.heap.objs.size fun y => [(p, u)].reverse.lookup y) (kp : ∀ b o, s.heap.get? b = some o → g.get? b = some o) :
    Inv (lamCx X A outer s H E scope f c') [] (σ.set i (some x)) H { s with heap := g, toks := tk } := by
  have cap := L.cap I.ok
  have outC : ∀ {y c}, (cloFrom X.env.cells scope.names []).lookup y = some c → X.env.cells.lookup y = some c := fun {y c} e => by
    rcases cloFrom_mem (PySem.mem_of_lookup e) with q | ⟨q1, q2⟩
    · exact nomatch q
    · obtain ⟨d, hd⟩ := cap _ q1 rfl
      have hd : X.env.cells.lookup y = some d := hd
      rw [q2, hd]
      rfl
  have inC : ∀ {y}, scope.names.lookup y = some .free → ∃ c, (cloFrom X.env.cells scope.names []).lookup y = some c := fun {y} q =>
    mem_lookup (cloFrom_has (cells := X.env.cells) (acc := []) (show (y, NameKind.free) ∈ scope.names from PySem.mem_of_lookup q))
  have noE : ∀ b : Addr, b ∉ (lamCx X A outer s H E scope f c').ex := fun b z => nomatch (show b ∈ ([] : List Addr) from z)
  refine ⟨⟨e0.mod, L.kd, rfl, rfl, Nat.le_refl _, fun y z c q1 q2 => I.ok.inj y z c (outC q1) (outC q2), fun y q => ?_, fun y c z _ => (nomatch (show false = true from z)), fun _ => hd, Around.frames_deeper e0.frames, .inr ⟨rfl, rfl⟩, fun b z => absurd z (noE b), e0.bs, e0.bsz, fun b _ _ => noE b, fun b z => absurd z (noE b), e0.funs, e0.frf⟩,
    rfl, e0.bare, Un.kept kp, ⟨_, ns, fun j y v q1 q2 q3 => ?_⟩, fun y c q => ?_, e0.hok.fresh (Nat.le_refl _), fun y c q => I.freeC y c (outC q), fun q z => (nomatch (show q ∈ ([] : List (Addr × Obj)) ++ [] from z)), e0.hok.kept kp, by rw [List.length_set]; exact I.len⟩
  · rcases (show scope.names.lookup y = some .cell ∨ scope.names.lookup y = some .free from q) with q | q
    · exact absurd rfl (L.nm _ (PySem.mem_of_lookup q)).1
    · exact inC q
  · rcases (show Vis scope y from q3) with q | q | q
    · have hy : y = p := (L.nm _ (PySem.mem_of_lookup q)).2 rfl
      subst hy
      have hj : j = i := nodup_ix nd q1 hi
      subst hj
      have hl : j < σ.length := by
        have := (List.getElem?_eq_some_iff.mp q2).1
        rwa [List.length_set] at this
      rw [List.getElem?_set_self hl] at q2
      cases q2
      exact ⟨u, rx, .inl ⟨q, by simp⟩⟩
    · exact absurd rfl (L.nm _ (PySem.mem_of_lookup q)).1
    · have hne : i ≠ j := fun z => by
        subst z
        have q1 : X.N[i]? = some y := q1
        rw [hi] at q1
        cases q1
        rw [L.pl] at q
        cases q
      rw [List.getElem?_set_ne hne] at q2
      obtain ⟨m, _, lk⟩ := I.loc
      have vis : Vis X.env.scope y := .inr (L.fr _ (PySem.mem_of_lookup q) rfl)
      obtain ⟨w', r, z⟩ := lk j y v q1 q2 vis
      obtain ⟨c2, h2⟩ := inC q
      refine ⟨w', r, .inr ⟨.inr q, c2, h2, ?_⟩⟩
      rcases z with ⟨z, _⟩ | ⟨_, c3, e3, ⟨o, ho, hdd⟩⟩
      · rcases L.fr _ (PySem.mem_of_lookup q) rfl with k2 | k2 <;> rw [show X.env.kindOf y = _ from k2] at z <;> cases z
      · rw [outC h2] at e3
        cases e3
        exact ⟨o, kp _ _ ho, hdd⟩
  · obtain ⟨v, o, ho, hdd⟩ := I.cell y c (outC q)
    exact ⟨v, o, kp _ _ ho, hdd⟩
/-- the call of a lambda of one parameter, made in the same def -/
theorem lam_call {A : Around} {f c' : Addr} {ctv pm : Value} {params : Arguments} {body : Expr} {scope : Scope} {k i : Nat} {p : Str} {x : V} {u : Value} {tb : TE} {Q : VK} {E : Value → Shared → Prop} {Q' : Value → Shared → Prop} (I : Inv X pins σ H s) (L : LamS1 p X.env.scope scope) (nd : X.N.Nodup) (hi : X.N[i]? = some p)
    (hf : s.heap.get? f = some (PySem.W.kla_obj "<lambda>" (X.env.qual ++ "<lambda>") params body scope (cloFrom X.env.cells scope.names []) pm c' ctv)) (hc : H c' = some (CodeO c' (X.env.qual ++ "<lambda>")))
    (hb : ∀ u, bindArgs (PySem.W.kla_fn "<lambda>" (X.env.qual ++ "<lambda>") params body scope (cloFrom X.env.cells scope.names []) pm (.ref c') ctv) ⟨[u], []⟩ = pure [(p, u)])
    (e0 : Env0 X.prog X.w X.K X.mg X.base A X.stack s H) (hr : Room (k + 1) A) (hbody : Room k (A.deeper (lamEnv X scope s.heap.objs.size f c')) → PE (lamCx X A X.stack s H E0 scope f c') body tb)
    (rx : RelV x u) (h : tb (σ.set i (some x)) H Q) (hq : ∀ v s', EP X pins σ Q v s' → Q' v s') : wpAny (model X.prog X.w) A (call (.ref f) [u]) Q' E s := by
  obtain ⟨⟨oc, vs, t, ho, hd1, hv⟩, _, _⟩ := I.hok c' _ hc
  have run : codeAny (model X.prog X.w) A (.call (.ref f) ⟨[u], []⟩) (CR (L2.CX X.prog X.w) X.stack X.prog X.w H s Q E0) s := by
    refine PySem.W.kla_callFunE hr.depth hf rfl L.nc L.ng rfl ⟨c', oc, vs, t, rfl, ho, hd1, hv⟩ ?_
    rw [hb]
    refine wpAny_pure (wpAny_newFunctionEnv (fun y hy => (L.nm y hy).1) (fun y hy => by rw [List.mem_singleton.mp hy]; exact L.pl) (fun g hns hsb => ⟨I.nolimit.fresh _ hsb, ?_⟩) L.kd)
    have kp : ∀ b o, s.heap.get? b = some o → g.get? b = some o := fun b o e => hsb.extBut b o (Nat.ne_of_lt (Heap.lt_size e)) (Heap.get?_push_of_some _ e)
    have J := lam_enter (A := A) (outer := X.stack) (E := E0) (f := f) (c' := c') (tk := s.toks + [(p, u)].length) I L e0 hr.hd nd hi rx hns kp
    refine PySem.W.kla_codeExpr (wpAny_mono ((hbody (hr.deeper _)).run [] _ _ H Q J h) (fun v s' z => ?_) fun e s' z => z)
    obtain ⟨w', H', J', rv, q⟩ := z
    exact ⟨w', H', J'.os, J'.bare, J'.base, J'.hok, rv, q⟩
  refine wpAny_call (codeAny_mono run fun r s' z => ?_)
  cases r with
  | error e => exact (cx_no z).elim
  | ok fl =>
    cases fl with
    | ret v => exact hq v s' (I.after z)
    | next => exact (show False from z).elim
    | brk => exact (show False from z).elim
    | cont => exact (show False from z).elim
end
end Np
set_option Elab.async false
set_option linter.all false
set_option maxRecDepth 100000
set_option maxHeartbeats 4000000
namespace Np
open PySem PySem.Spec PyProof.Rows L2 LamX
end Np
set_option Elab.async false
set_option linter.all false
set_option maxRecDepth 100000
set_option maxHeartbeats 4000000
namespace Np
open PySem PySem.Spec PyProof.Rows L2 LamX
/-- the object at f is the lambda of these words -/
def LamO (f c' : Addr) (q : Str) (params : Arguments) (body : Expr) (scope : Scope) (cl : List (Str × Addr)) : HO := .ext fun h => ∃ pm ctv : Value, h.get? f = some (PySem.W.kla_obj "<lambda>" q params body scope cl pm c' ctv)
/-- what the making leaves: only the table at P has grown -/
structure LamMade (T : List (Addr × Str)) (P : Addr) (H H' : Hp) : Prop where
  t : Tabs T H'
  k : ∀ b o, b ≠ P → H b = some o → H' b = some o
  x : ∀ b, H b ≠ none → H' b ≠ none
  p : ∀ o, H P = some o → o.tb = true
  m : ∃ q, (P, q) ∈ T
section
variable {X : Cx} {pins : List (Addr × Obj)} {σ : L2.St} {H : Hp} {s : Shared}
theorem Inv_track {a : Addr} {o : HO} (I : Inv X pins σ H s) (r : FbM.Rec X pins a) (n : H a = none) (new : ObjOk X.prog X.w (upd H a o) s.heap a o) : Inv X pins σ (upd H a o) s := by
  refine Inv.step (s := s) (h' := s.heap) (t' := s.toks) (g' := s.gens) (d' := s.drawn) (ch := [a]) I (fun b hb => ?_) (fun b u _ _ _ e _ => e) (fun b u _ _ _ e _ => ⟨u.slots, e⟩) (fun b u hc e z => by rw [upd_ne (fun q => hc (by simp [q]))]; exact z) (fun b u _ e => ⟨u, e⟩)
    (fun b ys e => by rw [upd_ne (ne_of_none e n)]; exact e) (fun b u v e => by rw [upd_ne (ne_of_none e n)]; exact e) (fun b ps e => ⟨#[], by rw [upd_ne (ne_of_none e n), e]; simp⟩) (fun m hm => hm) (fun b u e => ?_) I.bare
  · cases List.mem_singleton.mp hb
    exact ⟨.inr r.ge, r.nl, r.ce, r.pn⟩
  · by_cases hb : b = a
    · subst hb
      rw [upd_same] at e
      cases e
      exact new
    · rw [upd_ne hb] at e
      exact (I.hok b u e).stay (fun d v _ q => q) (fun d q => by rw [upd_ne (ne_of_none q n)]; exact q) fun d xs q => by rw [upd_ne (ne_of_none q n)]; exact q
theorem lam_new {T : List (Addr × Str)} {c P : Addr} {params : Arguments} {body : Expr} {scope : Scope} {pos : Pos} {E : Value → Shared → Prop} {Q : Value → Shared → Prop} (I : Inv X pins σ H s) (B : TabB X.base X.mg c P) (hc : X.env.code = .ref c)
    (hm : (P, X.env.qual ++ "<lambda>") ∈ T) (hu : ∀ p ∈ T, p.1 = P → p.2 = X.env.qual ++ "<lambda>") (hT : Tabs T H) (hdef : defaultsOf params X.env = ([], [])) (cap : ∀ y ∈ scope.names, y.2 = .free → ∃ c, X.env.cells.lookup y.1 = some c)
    (h : ∀ (f c' : Addr) (H' : Hp) (s' : Shared), Inv X pins σ H' s' → LamMade T P H H' → H f = none → H' f = some (LamO f c' (X.env.qual ++ "<lambda>") params body scope (cloFrom X.env.cells scope.names [])) → H' c' = some (CodeO c' (X.env.qual ++ "<lambda>")) → Q (.ref f) s') :
    wpAny (model X.prog X.w) X.A (eval (.Lambda params body scope pos) X.env) Q E s := by
  obtain ⟨ps, hP, tr, am⟩ := hT _ hm
  have b0 : s.heap.BuiltinsAt X.mg P := B.bm.keeps I.bk
  have o0 : s.heap.get? P = some { cls := .none, data := .fields ps } := I.hok P _ hP
  have lay : ∀ {H' : Hp} {g : Heap} {tk : Nat} {c' : Addr} {pm ctv : Value} (hr : FbM.Rec X pins g.objs.size), Inv X pins σ H' { s with heap := g.push (PySem.W.kla_obj "<lambda>" (X.env.qual ++ "<lambda>") params body scope (cloFrom X.env.cells scope.names []) pm c' ctv), toks := tk } → H' g.objs.size = none →
      Inv X pins σ (upd H' g.objs.size (LamO g.objs.size c' (X.env.qual ++ "<lambda>") params body scope (cloFrom X.env.cells scope.names []))) { s with heap := g.push (PySem.W.kla_obj "<lambda>" (X.env.qual ++ "<lambda>") params body scope (cloFrom X.env.cells scope.names []) pm c' ctv), toks := tk } := fun {H' g tk c' pm ctv} hr J n => by
    have eo := Heap.get?_push_size g (o := PySem.W.kla_obj "<lambda>" (X.env.qual ++ "<lambda>") params body scope (cloFrom X.env.cells scope.names []) pm c' ctv) rfl
    exact Inv_track J hr n ⟨⟨pm, ctv, eo⟩, ⟨_, eo⟩, fun h1 h2 ⟨p1, c1, z⟩ st => ⟨p1, c1, st _ z⟩⟩
  cases hh : codeAmong pos ps.toList with
  | none =>
    refine PySem.W.kla_eval hdef (PySem.W.kla_makeFunction (mg := X.mg) (c := c) (P := P) (ps := ps) (closure_ok cap) I.ok.glob (I.mod.glob.keeps I.bk) hc (B.code.keeps I.bk) o0 tr hh B.gP b0 fun c' ctv g tk hx hge hlt hrec htb => ?_)
    obtain ⟨c2, oc, vs, t, z2, hoc, hd, hv⟩ := hrec
    cases z2
    have gsz : s.heap.objs.size ≤ g.objs.size := Nat.le_trans hge (Nat.le_of_lt hlt)
    have nC : H c' = none := I.hok.fresh hge
    have J := inv_table (t' := tk) (q := X.env.qual ++ "<lambda>") (c := c') (more := #[rawInt pos.line, rawInt pos.col, .ref c']) (h' := g.push (PySem.W.kla_obj "<lambda>" (X.env.qual ++ "<lambda>") params body scope (cloFrom X.env.cells scope.names []) ((X.mg "__name__").getD .none) c' ctv)) I hP
      (fun b o hb e => Heap.get?_push_of_some _ (hx b o hb e)) (Heap.get?_push_of_some _ htb) hge ⟨oc, vs, t, Heap.get?_push_of_some _ hoc, hd, hv⟩
    generalize hH1 : upd (upd H P (.tbl (ps ++ #[rawInt pos.line, rawInt pos.col, .ref c']))) c' (CodeO c' (X.env.qual ++ "<lambda>")) = H1 at J
    have hPc : P ≠ c' := ne_of_none hP nC
    have at1 : ∀ b, b ≠ P → b ≠ c' → H1 b = H b := fun b q1 q2 => by rw [← hH1, upd_ne q2, upd_ne q1]
    have atP : H1 P = some (.tbl (ps ++ #[rawInt pos.line, rawInt pos.col, .ref c'])) := by rw [← hH1, upd_ne hPc, upd_same]
    have atC : H1 c' = some (CodeO c' (X.env.qual ++ "<lambda>")) := by rw [← hH1, upd_same]
    have fP : g.objs.size ≠ P := Nat.ne_of_gt (Nat.lt_of_lt_of_le (Heap.lt_size o0) gsz)
    have fC : g.objs.size ≠ c' := Nat.ne_of_gt hlt
    have nF : H1 g.objs.size = none := by rw [at1 _ fP fC]; exact I.hok.fresh gsz
    have J2 := lay (hr := FbM.rec_new I gsz) J nF
    refine h g.objs.size c' _ _ J2 ⟨fun p hp => ?_, fun b o hb e => ?_, fun b hb => ?_, fun o e => ?_, ?_⟩ (I.hok.fresh gsz) upd_same (by rw [upd_ne fC.symm]; exact atC)
    · have old : ∀ b u, b ≠ P → H b = some u → upd H1 g.objs.size (LamO g.objs.size c' (X.env.qual ++ "<lambda>") params body scope (cloFrom X.env.cells scope.names [])) b = some u := fun b u q e => by
        rw [upd_ne (ne_of_none e (I.hok.fresh gsz)), at1 b q (ne_of_none e nC)]; exact e
      by_cases hb : p.1 = P
      · rw [hu p hp hb, hb]
        refine ⟨_, (upd_ne fP.symm).trans atP, by rw [Array.toList_append]; exact PySem.TriplesOk_snoc _ _ _ _ tr, fun p' cv hcv => ?_⟩
        rw [Array.toList_append] at hcv
        rcases among_app _ tr hcv with z | z
        · obtain ⟨c0, q1, q2⟩ := am p' cv z
          exact ⟨c0, q1, old c0 _ (fun w => by rw [w, hP] at q2; cases q2) q2⟩
        · exact ⟨c', z, by rw [upd_ne fC.symm]; exact atC⟩
      · obtain ⟨qs, a1, a2, a3⟩ := hT p hp
        refine ⟨qs, old _ _ hb a1, a2, fun p' cv hcv => ?_⟩
        obtain ⟨c0, q1, q2⟩ := a3 p' cv hcv
        exact ⟨c0, q1, old c0 _ (fun w => by rw [w, hP] at q2; cases q2) q2⟩
    · rw [upd_ne (ne_of_none e (I.hok.fresh gsz)), at1 b hb (ne_of_none e nC)]; exact e
    · by_cases q : b = g.objs.size
      · rw [q, upd_same]; simp
      · rw [upd_ne q]
        by_cases q2 : b = P
        · rw [q2, atP]; simp
        · by_cases q3 : b = c'
          · rw [q3, atC]; simp
          · rw [at1 b q2 q3]; exact hb
    · rw [hP] at e
      cases e
      rfl
    · exact ⟨_, hm⟩
  | some cv =>
    obtain ⟨c', z, hco⟩ := am pos cv hh
    subst z
    refine PySem.W.kla_eval hdef (PySem.W.kla_makeFunctionHit (mg := X.mg) (c := c) (P := P) (ps := ps) (closure_ok cap) I.ok.glob (I.mod.glob.keeps I.bk) hc (B.code.keeps I.bk) o0 tr hh b0 fun ctv g tk hx gsz => ?_)
    have J : Inv X pins σ H { s with heap := g.push (PySem.W.kla_obj "<lambda>" (X.env.qual ++ "<lambda>") params body scope (cloFrom X.env.cells scope.names []) ((X.mg "__name__").getD .none) c' ctv), toks := tk } := I.kept fun b o e => Heap.get?_push_of_some _ (hx b o e)
    have nF : H g.objs.size = none := I.hok.fresh gsz
    have J2 := lay (hr := FbM.rec_new I gsz) J nF
    have old : ∀ b u, H b = some u → upd H g.objs.size (LamO g.objs.size c' (X.env.qual ++ "<lambda>") params body scope (cloFrom X.env.cells scope.names [])) b = some u := fun b u e => by
      rw [upd_ne (ne_of_none e nF)]; exact e
    refine h g.objs.size c' _ _ J2 ⟨hT.ext old, fun b o _ e => old b o e, fun b hb => ?_, fun o e => ?_, ⟨_, hm⟩⟩ nF upd_same (old _ _ hco)
    · cases q : H b with
      | none => exact (hb q).elim
      | some o => rw [old b o q]; simp
    · rw [hP] at e
      cases e
      rfl
end
end Np
set_option Elab.async false
set_option linter.all false
set_option maxRecDepth 100000
set_option maxHeartbeats 4000000
namespace Np
open PySem PySem.Spec PyProof.Rows L2 LamX
/-- a lambda as a value; mk: what its object is -/
def tLamV (T : List (Addr × Str)) (P : Addr) (mk : Addr → Addr → HO) (q : Str) : TE := fun σ H Q => Tabs T H ∧ ∀ (f c' : Addr) (H' : Hp), LamMade T P H H' → H f = none → H' f = some (mk f c') → H' c' = some (CodeO c' q) → Q (.ref f) H'
theorem pe_lam {X : Cx} {T : List (Addr × Str)} {c P : Addr} {params : Arguments} {body : Expr} {scope : Scope} {pos : Pos} (B : TabB X.base X.mg c P) (hc : X.env.code = .ref c) (hm : (P, X.env.qual ++ "<lambda>") ∈ T) (hu : ∀ p ∈ T, p.1 = P → p.2 = X.env.qual ++ "<lambda>")
    (hdef : defaultsOf params X.env = ([], [])) (cap : ∀ y ∈ scope.names, y.2 = .free → X.env.scope.names.lookup y.1 = some .cell ∨ X.env.scope.names.lookup y.1 = some .free) :
    PE X (.Lambda params body scope pos) (tLamV T P (fun f c' => LamO f c' (X.env.qual ++ "<lambda>") params body scope (cloFrom X.env.cells scope.names [])) (X.env.qual ++ "<lambda>")) :=
  ⟨fun pins s σ H Q I h => lam_new I B hc hm hu h.1 hdef (fun y hy e => (cap y hy e).elim (fun k => I.ok.has _ (.inl k)) fun k => I.ok.has _ (.inr k)) fun f c' H' s' J M n hf hc' => ⟨.ref f, H', J, rfl, h.2 f c' H' M n hf hc'⟩⟩
/-- a built-in by keywords, its reading told of the slots -/
def CallKS (X : Cx) (f : Value) (ks : List Str) (r : L2.St → List V → List V → Hp → VK → Prop) : Prop :=
  ∀ (pins : List (Addr × Obj)) (s : Shared) (σ : L2.St) (H : Hp) (xs zs : List V) (us ws : List Value) (Q : VK), Inv X pins σ H s → Vals xs us → Vals zs ws → r σ xs zs H Q → wpAny (model X.prog X.w) X.A (call f us (ks.zip ws)) (EP X pins σ Q) X.xe s
def tKS (r : L2.St → List V → List V → Hp → VK → Prop) (t tk : TA) : TE := fun σ H Q => t σ H fun vs H1 => tk σ H1 fun zs H2 => r σ vs zs H2 Q
theorem pe_callKS {X : Cx} {x : Str} {p pos : Pos} {e : Expr} {es : List Expr} {kws : List Keyword} {t tk : TA} {id : String} {ks : List Str} {r : L2.St → List V → List V → Hp → VK → Prop} (hc : CallKS X (.builtin id) ks r) (hg : Gl X x) (hm : X.mg x = none) (hv : bootBuiltins x = some (.builtin id)) (ha : PA X (e :: es) t) (hk : PK X kws tk) (hn : x ≠ "__name__" := by decide) (hdb : (x == ("__debug__" : Str)) = false := by decide)
    (h1 : backTo pos (starEach (e :: es) X.env) = (false, eval e X.env) :: backTo pos (starEach es X.env) := by rfl) (h2 : (backTo pos (starEach (e :: es) X.env)).any (·.1) = false := by rfl)
    (h3 : (backToKw pos (keywordEach kws X.env)).all (·.1.isSome) = true := by rfl) (h4 : (backToKw pos (keywordEach kws X.env)).any (·.1.isNone) = false := by rfl) (h5 : (backToKw pos (keywordEach kws X.env)).filterMap (·.1) = ks := by rfl) :
    PE X (.Call (.Name x p) (e :: es) kws pos) (tKS r t tk) :=
  ⟨fun pins s σ H Q I h => wpAny_Call_Name_kw (ld_blt I hg hm hv (PyProof.Rows.callWith_kw (thn (ha.run pos pins s σ H _ I h) fun us s1 ⟨vs, H1, I1, r1, q1⟩ => thn (hk.run pos pins s1 σ H1 _ I1 q1) fun ws s2 ⟨zs, H2, I2, r2, q2⟩ => by
    rw [h5]
    exact hc pins s2 σ H2 vs zs us ws Q I2 r1 r2 q2) h1 h2 h3 h4) hn hdb)⟩
section
variable {W : Wp} {Wx : L2.St → XK} {ta : TA} {δa : DA} {tb : TE} {δb : DE}
theorem LamMade.ext {P : Addr} {G : GH} {H H' : Hp} (M : LamMade W.T P H H') (g : SB W G H) : Ext none G H G H' ∧ SB W G H' := by
  have nP : ∀ b o, o.tb = false → H b = some o → b ≠ P := fun b o t e z => by
    have := M.p o (by rw [← z]; exact e)
    rw [t] at this
    cases this
  obtain ⟨q, hq⟩ := M.m
  exact ⟨⟨GS.refl _, fun p o _ t e => M.k p o (nP p o t e) e, fun _ _ _ h => h, M.x, fun _ => .inl, fun _ => rfl⟩, fun b o e => M.k b o (fun z => by rw [z, g.n _ hq] at e; cases e) (g.s b o e), M.t, g.n⟩
end
end Np
set_option Elab.async false
set_option linter.all false
set_option maxRecDepth 100000
set_option maxHeartbeats 4000000
namespace Np
open PySem PySem.Spec PyProof.Rows L2 LamX
section
variable {P : Program} {w : World} {K : PySem.W.Frag} {mg : Str → Option Value} {base : Heap} {k : Nat} {f : Addr} {fd : FuncData} {N ps : List Str} {sp : Sp} {x qual : Str} {st : Stmt}
theorem Fun.okC (F : Fun K x qual st f fd) (S : FnScope N ps (defScope st)) (len : ∀ vs H Q E, sp vs H Q E → vs.length = ps.length)
    (hbody : ∀ (A : Around) (outer : List Env) (s : Shared) (H : Hp) (vs : List V) (Q : VK) (E : XK), (A.deeper (envOfC qual (defScope st) s.heap.objs.size f fd.code)).guards = some [] → Room k (A.deeper (envOfC qual (defScope st) s.heap.objs.size f fd.code)) → sp vs H Q E →
      ∃ t, PSs (cxOf CX0 P w K mg base N qual (defScope st) f fd.code A outer s H E).nox (defBody st) t ∧ t { nx := fun _ H' => Q .non H', rt := Q } (start N vs) H) : FnG P w K mg base CX0 (k + 1) f fd ps sp := by
  obtain ⟨oc, od, kV, doc, pm, an, cdv, ct, osl, rfl, lk, hcd⟩ := F.ex
  refine fn_ofG lk hcd S len fun A outer s H vs Q E hgd hr hsp => ?_
  obtain ⟨t, h, q⟩ := hbody A outer s H vs Q E hgd hr hsp
  exact ⟨t, h.nox, q⟩
end
/-- the law's promise; the tables are empty -/
def spLT (K : PySem.W.Frag) (T : List (Addr × Str)) : Sp := fun vs H Q E => spL K vs H Q E ∧ ∀ p ∈ T, H p.1 = some (.tbl #[])
/-- the end with tables: cs, each code object and its table -/
theorem law_callGT {P : Program} {w : World} {K : PySem.W.Frag} {mg mb : Str → Option Value} {CX : CXT} {k : Nat} {fa a : Addr} {cs : List (Addr × Addr)} {fd : FuncData} {x : Str} {sp : Sp} {s₁ : Shared} {vs : List Value} {ns : List Int}
    (inK : K.In s₁.heap) (hmg : s₁.heap.Ns mainGlobals mg) (hmb : s₁.heap.Ns builtinsNs mb) (hbb : ∀ x : Str, x ≠ "__name__" → mb x = bootBuiltins x) (hlim : s₁.heap.NoLimit) (hgens : s₁.gens = #[])
    (ht : ∀ p ∈ cs, s₁.heap.get? p.2 = some { cls := .none, data := .fields #[] }) (nt : ∀ p ∈ cs, K.lookup p.2 = none) (hcd : ∀ p ∈ cs, PySem.W.CodeHd s₁.heap p.1 p.2)
    (hbm : ∃ (bm : Addr) (ob : Obj), mg "__builtins__" = some (.ref bm) ∧ bm ≠ builtinsNs ∧ s₁.heap.get? bm = some ob ∧ ob.cls = .type "module" ∧ ob.dict = some builtinsNs ∧ ob.data = .plain)
    (hsc : s₁.heap.get? a = some { cls := .type "list", data := .seq vs.toArray }) (hints : IntsAre vs ns) (hlen : ns.length ≤ sizeLine) (hr : Room k callerA)
    (F : ∀ base : Heap, K.In base → base.Ns mainGlobals mg → (∀ p ∈ cs, TabB base mg p.1 p.2) → FnG P w K mg base CX k fa fd [x] sp) (hbind : ∀ (s : Shared) (u : Value), BindsTo s fd ⟨[u], []⟩ [(x, u)])
    (hsp : ∀ H : Hp, (∀ p ∈ cs, H p.2 = some (.tbl #[])) → SqL K H a (ns.map V.int) → sp [.ref a] H (fun v _ => v = .bl true) fun _ _ _ => False)
    (hCX : ∀ H e s', CX [] H s₁ (fun _ _ _ => False) e s' → False) :
    codeAny (model P w) callerA (.call (.ref fa) ⟨[.ref a], []⟩) (fun r s' => r = .ok (.ret (.bool true)) ∧ OldK s₁.heap s'.heap ∧ s'.os = s₁.os ∧ AllBare s'.gens) s₁ := by
  have rel := vals_ints hints
  have lv := hints.length
  have tb : ∀ b ∈ cs.map (·.2), s₁.heap.get? b = some { cls := .none, data := .fields #[] } := fun b hb => by
    obtain ⟨p, hp, rfl⟩ := List.mem_map.mp hb
    exact ht p hp
  have na : a ∉ cs.map (·.2) := fun z => by
    have q := (tb a z).symm.trans hsc
    cases q
  have core : ∀ H : Hp, (∀ b ∈ cs.map (·.2), H b = some (.tbl #[])) → (∀ b, b ∉ cs.map (·.2) → H b = none ∨ (b = a ∧ ∃ o xs, H b = some (.frz o (.lst xs)))) → SqL K H a (ns.map V.int) → HOk P w H s₁.heap → (H a ≠ none → K.lookup a = none) →
      codeAny (model P w) callerA (.call (.ref fa) ⟨[.ref a], []⟩) (fun r s' => r = .ok (.ret (.bool true)) ∧ OldK s₁.heap s'.heap ∧ s'.os = s₁.os ∧ AllBare s'.gens) s₁ := by
    intro H hT hO sq hok notK
    have ground : ∀ {b : Addr} {o : Obj}, s₁.heap.get? b = some o → H b = none → (hidT s₁.heap H).get? b = some o := fun e n => hidT_get e n
    have free : ∀ {b : Addr} {o : Obj}, s₁.heap.get? b = some o → (∀ ws n, o.data ≠ .seq ws n) → o.data ≠ .fields #[] → H b = none := fun {b o} e d1 d2 => by
      by_cases hb : b ∈ cs.map (·.2)
      · rw [tb b hb] at e
        cases e
        exact (d2 rfl).elim
      · rcases hO b hb with z | ⟨rfl, _⟩
        · exact z
        · rw [hsc] at e
          cases e
          exact (d1 _ _ rfl).elim
    have spaces : ∀ {b : Addr} {m : Str → Option Value}, s₁.heap.Ns b m → (hidT s₁.heap H).Ns b m := fun {b m} ⟨o, es, ep, e, dd, r⟩ => ⟨o, es, ep, ground e (free e (fun ws n z => by rw [dd] at z; cases z) fun z => by rw [dd] at z; cases z), dd, r⟩
    have kb : K.In (hidT s₁.heap H) := fun b o e => ground (inK b o e) (by
      by_cases hb : b ∈ cs.map (·.2)
      · obtain ⟨p, hp, rfl⟩ := List.mem_map.mp hb
        rw [nt p hp] at e
        cases e
      · rcases hO b hb with z | ⟨rfl, o', xs, z⟩
        · exact z
        · rw [notK (by rw [z]; simp)] at e
          cases e)
    have hMod : Mod K mg (hidT s₁.heap H) := ⟨kb, spaces hmg, ⟨mb, spaces hmb, hbb⟩, let ⟨mc, h1, h2⟩ := hlim; ⟨mc, spaces h1, h2⟩⟩
    have TB : ∀ p ∈ cs, TabB (hidT s₁.heap H) mg p.1 p.2 := fun p hp => by
      have e2 := ht p hp
      refine ⟨?_, ?_, fun z => ?_⟩
      · obtain ⟨o, us, r1, r2, r3, r4, r5, r6, r7, q0, q1, q2, q3, q4⟩ := hcd p hp
        refine ⟨o, us, r1, r2, r3, r4, r5, r6, r7, ground q0 (free q0 (fun ws n z => ?_) fun z => ?_), q1, q2, q3, q4⟩
        · rw [q2] at z; cases z
        · rw [q2] at z
          cases z
          simp at q3
      · obtain ⟨bm, ob, b1, b2, b3, b4, b5, b6⟩ := hbm
        refine ⟨bm, ob, b1, b2, fun z => ?_, fun z => ?_, ground b3 (free b3 (fun ws n z => ?_) fun z => ?_), b4, b5, b6⟩
        · obtain ⟨o, es, ep, e, dd, _⟩ := hmg
          rw [z, e] at b3
          cases b3
          rw [dd] at b6
          cases b6
        · rw [z, e2] at b3
          cases b3
          cases b6
        · rw [b6] at z; cases z
        · rw [b6] at z; cases z
      · obtain ⟨o, es, ep, e, dd, _⟩ := hmg
        rw [z, e2] at e
        cases e
        cases dd
    have e0 : Env0 P w K mg (hidT s₁.heap H) callerA [] s₁ H := ⟨rfl, hMod, fun b o e => of_hidT e, Nat.le_of_eq (hidT_size _ _), trivial, fun b hb => absurd (show b ∈ ([] : List Addr) from hb) (by simp), hok, .of_eq hgens⟩
    refine codeAny_mono ((F _ kb (spaces hmg) TB).run callerA [] s₁ H ⟨[.ref a], []⟩ [.ref a] [.ref a] _ _ rfl hr e0 (hbind s₁ (.ref a)) (.cons rfl .nil) (hsp H (fun p hp => hT p.2 (List.mem_map.mpr ⟨p, hp, rfl⟩)) sq)) fun r s' hh => ?_
    cases r with
    | error e => exact (hCX H e s' hh).elim
    | ok fl =>
      cases fl with
      | next => exact False.elim hh
      | brk => exact False.elim hh
      | cont => exact False.elim hh
      | ret u =>
        obtain ⟨v, H', eos, bare, un, hok', rv, q⟩ := hh
        have ev : v = .bl true := q
        subst ev
        obtain rfl : u = Value.bool true := rv
        have grow : ∀ p ∈ cs, ∃ more : Array Value, s'.heap.get? p.2 = some { cls := .none, data := .fields more } := fun p hp => by
          obtain ⟨more, z⟩ := un.tbls p.2 #[] (hT p.2 (List.mem_map.mpr ⟨p, hp, rfl⟩))
          exact ⟨_, hok' p.2 _ z⟩
        have rest : ∀ b o, b ∉ cs.map (·.2) → s₁.heap.get? b = some o → s'.heap.get? b = some o := fun b o hb e => by
          rcases hO b hb with z | ⟨rfl, ob, xs, z⟩
          · exact un.keep b o e z (fun y => nomatch (show b ∈ ([] : List Addr) from y)) (by simp)
          · obtain ⟨e1, _⟩ := hok b _ z
            obtain ⟨e2, _⟩ := hok' b _ (un.frzs b ob _ z)
            rw [e] at e1
            cases e1
            exact e2
        refine ⟨rfl, ⟨fun b o e => ?_, fun b o e => ?_⟩, eos, bare⟩
        · by_cases hb : b ∈ cs.map (·.2)
          · obtain ⟨p, hp, rfl⟩ := List.mem_map.mp hb
            obtain ⟨more, hm⟩ := grow p hp
            rw [ht p hp] at e
            cases e
            exact .inr (.inl ⟨((hcd p hp).tab (ht p hp)).isCodeTable, rfl, #[], more, rfl, by rw [Array.empty_append]; exact hm⟩)
          · exact .inl (rest b o hb e)
        · by_cases hb : b ∈ cs.map (·.2)
          · obtain ⟨p, hp, rfl⟩ := List.mem_map.mp hb
            obtain ⟨more, hm⟩ := grow p hp
            exact ⟨_, hm⟩
          · exact ⟨o, rest b o hb e⟩
  cases hk : K.lookup a with
  | some o =>
    have e := inK a o hk
    rw [hsc] at e
    cases e
    refine core (fun b => if b ∈ cs.map (·.2) then some (.tbl #[]) else none) (fun b hb => if_pos hb) (fun b hb => .inl (if_neg hb)) (.inr ⟨_, vs.toArray, _, hk, rfl, rfl, rfl, by rw [List.size_toArray, lv]; exact hlen, by simpa using rel⟩) (fun b u z => ?_) fun z => absurd (if_neg na) z
    by_cases hb : b ∈ cs.map (·.2)
    · have z' := (if_pos hb).symm.trans z
      cases z'
      exact tb b hb
    · exact nomatch (if_neg hb).symm.trans z
  | none =>
    refine core (fun b => if b = a then some (.frz { cls := .type "list", data := .seq vs.toArray } (.lst (ns.map V.int))) else if b ∈ cs.map (·.2) then some (.tbl #[]) else none) (fun b hb => (if_neg (fun z => na (by rw [← z]; exact hb))).trans (if_pos hb)) (fun b hb => ?_) (.inl (.inr ⟨{ cls := .type "list", data := .seq vs.toArray }, if_pos rfl⟩)) (fun b u z => ?_) fun _ => hk
    · by_cases e : b = a
      · exact .inr ⟨e, _, _, if_pos e⟩
      · exact .inl ((if_neg e).trans (if_neg hb))
    · by_cases e : b = a
      · have z' := (if_pos e).symm.trans z
        cases z'
        subst e
        exact ⟨hsc, by rw [List.length_map]; exact hlen, vs, _, rel, hsc⟩
      · have z1 := (if_neg e).symm.trans z
        by_cases hb : b ∈ cs.map (·.2)
        · have z' := (if_pos hb).symm.trans z1
          cases z'
          exact tb b hb
        · exact nomatch (if_neg hb).symm.trans z1
end Np
set_option Elab.async false
set_option linter.all false
set_option maxRecDepth 100000
set_option maxHeartbeats 4000000
namespace Np
open PySem PySem.Spec PyProof.Rows L2 LamX
theorem walk_ofGY {l : PySem.W.OpenLaw} {n k : Nat} {q : Program} {loose : List Str} {XP : (Str → Option Value) → Heap → Prop} {YP : World → Heap → Prop} {d : DefRec} {K : Params → PySem.W.Frag} {CX : World → CXT} {x : Str}
    (hn : l.most = some n) (hn2 : n ≤ sizeLine) (hdf : d.params.defaults = []) (hr : Room k callerA)
    (hY : ∀ (w : World) (h : Heap), YP w h → (K w.params).In h)
    (F : ∀ (w : World) (mg : Str → Option Value) (fa : Addr) (h : Heap), YP w h → (K w.params).In h → h.Ns mainGlobals mg → mg d.name = some (.ref fa) →
      ∃ (fd : FuncData) (cs : List (Addr × Addr)) (sp : Sp), (∀ p ∈ cs, h.get? p.2 = some { cls := .none, data := .fields #[] }) ∧ (∀ p ∈ cs, (K w.params).lookup p.2 = none) ∧ (∀ p ∈ cs, PySem.W.CodeHd h p.1 p.2) ∧ (∀ (s : Shared) (u : Value), BindsTo s fd ⟨[u], []⟩ [(x, u)]) ∧
        (∀ (H : Hp) (a : Addr) (ns : List Int), ns.length ≤ n → (∀ p ∈ cs, H p.2 = some (.tbl #[])) → SqL (K w.params) H a (ns.map V.int) → sp [.ref a] H (fun v _ => v = .bl true) fun _ _ _ => False) ∧
        ∀ base : Heap, (K w.params).In base → base.Ns mainGlobals mg → (∀ p ∈ cs, TabB base mg p.1 p.2) → FnG l.prog w (K w.params) mg base (CX w) k fa fd [x] sp)
    (hCX : ∀ (w : World) (H : Hp) (s : Shared) (e : Value) (s' : Shared), CX w [] H s (fun _ _ _ => False) e s' → False) :
    PySem.W.WalkO q loose XP YP l.row.toRowW d [] (fun f vs => PySem.call f vs) := by
  refine Att.attach_callB hn hdf fun w s₀ s₁ mg mb fa o pm cd doc a vs ns G Y ho hd hcd hmg hobj hints hlen hbits hg => ?_
  have KX := hY w _ Y
  obtain ⟨fd, cs, sp, hT, nT, C, hb, hsp, hF⟩ := F w mg fa _ Y KX G.T.g hmg
  exact law_callGT KX G.T.g G.T.b G.T.builtins G.T.nolimit hg hT nT C G.T.bmain hobj hints (Nat.le_trans hlen hn2) hr hF hb (fun H hH hS => hsp H a ns hlen hH hS) fun H e s' => hCX w H s₁ e s'
end Np
set_option Elab.async false
set_option linter.all false
set_option maxRecDepth 100000
set_option maxHeartbeats 4000000
namespace Np
open PySem PySem.Spec PyProof.Rows L2
end Np
set_option Elab.async false
set_option linter.all false
set_option maxRecDepth 100000
set_option maxHeartbeats 4000000
namespace Np
open PySem PySem.Spec PyProof.Rows L2
def gEqNil (ng : Bool) : DD → DD → Option DD
  | .lst xs, .lst [] => some (.bl (if ng = true then !xs.isEmpty else xs.isEmpty))
  | _, _ => none
section
variable {W : Wp}
@[simp] theorem gEqNil_eq {xs : List DD} {ng : Bool} : gEqNil ng (.lst xs) (.lst []) = some (.bl (if ng = true then !xs.isEmpty else xs.isEmpty)) := id rfl
end
end Np
set_option Elab.async false
set_option linter.all false
set_option maxRecDepth 100000
set_option maxHeartbeats 4000000
namespace Np
open PySem PySem.Spec PyProof.Rows L2
section
variable {W : Wp} {Wx : L2.St → XK} {tp0 tp tp' : Option Addr} {G0 G G' : GH} {H0 H H' : Hp} {σ : L2.St} {ρ : PEnv} {τ τ' : TS'} {D : Ends} {te tk tx : TE} {ta : TA} {δe δk δx : DE} {δa : DA}
theorem GS.ads (G : GH) (p : Addr) : GS G ⟨G.hp, G.ads ++ [p]⟩ := ⟨Same.refl _, List.prefix_append _ _⟩
/-- how the tape lies does not hang on the store -/
abbrev StW (W : Wp) : Prop := ∀ (t : Tau) (st : List Nd) (c : Addr), W.tk { t with st := st } c = W.tk t c
/-- a new thing -/
theorem EnvV.newM {a p : Addr} {o : HO} {t : Tau} {nd : Nd} (hW : StW W) (E : EnvV W (some a) G H σ ρ (some t)) (n : H p = none) (h : NdR W ⟨G.hp, G.ads ++ [p]⟩ (upd H p o) p nd) :
    Ext (some a) G H ⟨G.hp, G.ads ++ [p]⟩ (upd H p o) ∧ EnvV W (some a) ⟨G.hp, G.ads ++ [p]⟩ (upd H p o) σ ρ (some { t with st := t.st ++ [nd] }) ∧ (⟨G.hp, G.ads ++ [p]⟩ : GH).ads[t.st.length]? = some p := by
  have t0 : TapeR W G H a t := E.t
  have gp : G.hp p = none := E.g.free n
  have pa : p ∉ G.ads := fun z => by
    obtain ⟨u, hu, _⟩ := t0.s.nt p z
    rw [n] at hu
    cases hu
  have ap : a ≠ p := fun z => by
    obtain ⟨u, hu, _⟩ := t0.n
    rw [z, n] at hu
    cases hu
  have sn : Same H (upd H p o) := same_new n
  have gs : GS G ⟨G.hp, G.ads ++ [p]⟩ := ⟨Same.refl _, List.prefix_append _ _⟩
  have sb0 := E.g.trans sn
  have sb : SB W ⟨G.hp, G.ads ++ [p]⟩ (upd H p o) := ⟨sb0.s, sb0.t, sb0.n⟩
  have ex : Ext (some a) G H ⟨G.hp, G.ads ++ [p]⟩ (upd H p o) := ⟨gs, fun q u _ _ hq => sn q u hq, fun q _ _ hg => hg, fun q hq => by
    cases z : H q with
    | none => exact (hq z).elim
    | some u => rw [sn q u z]; simp, fun q hq => by
    rcases List.mem_append.mp hq with hq | hq
    · exact .inl hq
    · exact .inr (by rw [List.mem_singleton.mp hq]; exact n), fun z => (nomatch z)⟩
  have hl := t0.s.l
  refine ⟨ex, E.ext ex sb (show TapeR W _ _ a _ from ⟨t0.g, ?_, ?_, ?_⟩), by show (G.ads ++ [p])[t.st.length]? = some p; rw [hl]; simp⟩
  · obtain ⟨c, h1, h2⟩ := t0.c
    exact ⟨c, h1, by rw [hW]; exact sn a _ h2⟩
  · obtain ⟨u, h1, h2⟩ := t0.n
    exact ⟨u, sn a _ h1, h2⟩
  · refine ⟨by simp [hl], ?_, ?_, ?_, ?_⟩
    · show (G.ads ++ [p]).Nodup
      rw [List.nodup_append]
      exact ⟨t0.s.d, by simp, fun x hx y hy z => by
        rw [List.mem_singleton.mp hy] at z
        exact pa (by rw [← z]; exact hx)⟩
    · intro z
      rcases List.mem_append.mp z with z | z
      · exact t0.s.t z
      · exact ap (List.mem_singleton.mp z)
    · intro k nd' b h1 h2 h3
      by_cases hk : k < t.st.length
      · rw [List.getElem?_append_left hk] at h1
        have h2 : (G.ads ++ [p])[k]? = some b := h2
        rw [List.getElem?_append_left (by omega)] at h2
        exact t0.s.g k nd' b h1 h2 h3
      · have hk2 : k = t.st.length := by
          have := (List.getElem?_eq_some_iff.mp h1).1
          simp at this
          omega
        subst hk2
        have h2 : (G.ads ++ [p])[t.st.length]? = some b := h2
        rw [hl] at h2
        simp at h2
        subst h2
        exact gp
    · intro k nd' b h1 h2
      by_cases hk : k < t.st.length
      · rw [List.getElem?_append_left hk] at h1
        have h2 : (G.ads ++ [p])[k]? = some b := h2
        rw [List.getElem?_append_left (by omega)] at h2
        exact (t0.s.n k nd' b h1 h2).keep gs fun u hu => sn b u hu
      · have hk2 : k = t.st.length := by
          have := (List.getElem?_eq_some_iff.mp h1).1
          simp at this
          omega
        subst hk2
        rw [List.getElem?_append_right (Nat.le_refl _)] at h1
        simp at h1
        subst h1
        have h2 : (G.ads ++ [p])[t.st.length]? = some b := h2
        rw [hl] at h2
        simp at h2
        subst h2
        exact h
/-- where a thing lies, and what it is -/
theorem EnvV.sto {t : Tau} {k : Nat} {nd : Nd} {v : V} (E : EnvV W tp G H σ ρ (some t)) (r : Rp W.K W.cm G v (.ptr k)) (h : t.st[k]? = some nd) : ∃ a p, tp = some a ∧ v = .ref p ∧ p ∈ G.ads ∧ G.ads[k]? = some p ∧ NdR W G H p nd := by
  cases tp with
  | none => exact (show False from E.t).elim
  | some a =>
    have t0 : TapeR W G H a t := E.t
    cases r with
    | ptr hp => exact ⟨a, _, rfl, rfl, List.mem_of_getElem? hp, hp, t0.s.n k nd _ h hp⟩
/-- a thing is another one now -/
theorem EnvS.putM {a p : Addr} {o : HO} {t : Tau} {k : Nat} {nd nd' : Nd} (hW : StW W) (E : EnvS W tp0 G0 H0 (some a) G H σ ρ (some t)) (hk : G.ads[k]? = some p) (h : t.st[k]? = some nd) (nf : nd.isFz = false) (h' : NdR W G (upd H p o) p nd') : EnvS W tp0 G0 H0 (some a) G (upd H p o) σ ρ (some { t with st := t.st.set k nd' }) := by
  have t0 : TapeR W G H a t := E.v.t
  have pm := List.mem_of_getElem? hk
  have np := (t0.s.n k nd p h hk).nt
  have ap : a ≠ p := fun z => t0.s.t (by rw [z]; exact pm)
  have gp : G.hp p = none := t0.s.g k nd p h hk nf
  refine E.mutM (.inr ⟨pm, gp⟩) ⟨t0.g, ?_, ?_, ?_⟩ np
  · obtain ⟨c, h1, h2⟩ := t0.c
    exact ⟨c, h1, by rw [upd_ne ap, hW]; exact h2⟩
  · obtain ⟨u, h1, h2⟩ := t0.n
    exact ⟨u, by rw [upd_ne ap]; exact h1, h2⟩
  · refine ⟨by simp [t0.s.l], t0.s.d, t0.s.t, fun j u b h1 h2 h3 => ?_, fun j u b h1 h2 => ?_⟩
    · by_cases e : j = k
      · subst e
        rw [hk] at h2
        cases h2
        exact gp
      · have h1 : (t.st.set k nd')[j]? = some u := h1
        rw [List.getElem?_set_ne (by omega)] at h1
        exact t0.s.g j u b h1 h2 h3
    by_cases e : j = k
    · subst e
      rw [hk] at h2
      cases h2
      rw [List.getElem?_set_self (List.getElem?_eq_some_iff.mp h).1] at h1
      cases h1
      exact h'
    · have h1 : (t.st.set k nd')[j]? = some u := h1
      rw [List.getElem?_set_ne (by omega)] at h1
      have bp : b ≠ p := fun z => e (by
        subst z
        exact (List.getElem?_inj (List.getElem?_eq_some_iff.mp h2).1 t0.s.d).mp (h2.trans hk.symm))
      exact (t0.s.n j u b h1 h2).keep (GS.refl _) fun w hw => by rw [upd_ne bp]; exact hw
/-- x[i] = e -/
def dStPut (x k e : DE) : DS := fun ρ τ => stE (e ρ τ) ρ fun d τ1 => stE (x ρ τ1) ρ fun u τ2 => stE (k ρ τ2) ρ fun n τ3 => match u, n, τ3 with
  | .ptr q, .int n, some t => match t.st[q]? with
    | some (.lst xs) => match ixN xs.length n with
      | some j => .ok (.nx ρ) (some { t with st := t.st.set q (.lst (xs.set j d)) })
      | none => .no
    | _ => .no
  | _, _, _ => .no
theorem ds_stPut (hW : StW W) (hx : Dn W Wx tx δx) (hk : Dn W Wx tk δk) (he : Dn W Wx te δe) : DnS W Wx (tAsg te (L2.gSub tx tk rSetL)) (dStPut δx δk δe) := fun tp0 G0 H0 tp G H σ ρ τ D E P =>
  he _ _ _ _ _ _ _ E.v (P.bind E fun d τ1 y G1 H1 E1 e1 r1 P1 => hx _ _ _ _ _ _ _ E1.v (P1.bind E1 fun u τ2 w G2 H2 E2 e2 r2 P2 => hk _ _ _ _ _ _ _ E2.v (P2.bind E2 fun n τ3 z G3 H3 E3 e3 r3 P3 => by
    split at P3
    · rename_i q n t
      split at P3
      · rename_i xs hq
        split at P3
        · rename_i j hj
          obtain ⟨a, p, rfl, rfl, hm, hp, vs, hv, rv⟩ := E3.v.sto (r2.mono e3.g) hq
          exact ⟨p, vs, n, j, rfl, r3.int_of, hv, by rw [rv.length]; exact hj, P3 (some a) _ _ σ (GS.refl _) (EnvS.putM hW E3 hp hq rfl ⟨_, upd_same, RpA.set (Rp.mono (e2.g.trans e3.g) r1) j rv⟩)⟩
        · exact P3.elim
      · exact P3.elim
    · exact P3.elim)))
/-- x.append(e) -/
def isLst (t : Tau) (q : Nat) : Bool := match t.st[q]? with
  | some (.lst _) => true
  | _ => false
theorem isLst_eq {t : Tau} {q : Nat} (h : isLst t q = true) : ∃ xs, t.st[q]? = some (.lst xs) := by
  unfold isLst at h
  split at h
  · rename_i xs e
    exact ⟨xs, e⟩
  · cases h
def dStApp (x e : DE) : DS := fun ρ τ => stE (x ρ τ) ρ fun u τ1 => match u, τ1 with
  | .ptr q, some t1 => if isLst t1 q = true then stE (e ρ τ1) ρ fun d τ2 => match τ2 with
      | some t => match t.st[q]? with
        | some (.lst xs) => if xs.length < sizeLine then .ok (.nx ρ) (some { t with st := t.st.set q (.lst (xs ++ [d])) }) else .no
        | _ => .no
      | none => .no
    else .no
  | _, _ => .no
theorem ds_stApp (hW : StW W) (hx : Dn W Wx tx δx) (he : Dn W Wx te δe) : DnS W Wx (tDrop (tBM W.K "list" rAppend tx (tCons te tNil))) (dStApp δx δe) := fun tp0 G0 H0 tp G H σ ρ τ D E P =>
  hx _ _ _ _ _ _ _ E.v (P.bind E fun u τ1 w G1 H1 E1 e1 r1 P1 => by
    split at P1
    · rename_i q t1
      split at P1
      · rename_i hl
        obtain ⟨xs1, hx1⟩ := isLst_eq hl
        obtain ⟨a, p, rfl, rfl, hm, hp, vs1, hv1, rv1⟩ := E1.v.sto r1 hx1
        refine ⟨.inl ⟨rfl, vs1, SqL.of hv1⟩, he _ _ _ _ _ _ _ E1.v (P1.bind E1 fun d τ2 y G2 H2 E2 e2 r2 P2 => ?_)⟩
        split at P2
        · rename_i t
          split at P2
          · rename_i xs hq
            split at P2
            · rename_i hs
              obtain ⟨a', p', ea, ep, hm2, hp2, vs, hv, rv⟩ := E2.v.sto (r1.mono e2.g) hq
              cases ea
              cases ep
              exact ⟨p, vs, y, rfl, rfl, hv, by rw [rv.length]; exact hs, P2 (some a) _ _ σ (GS.refl _) (EnvS.putM hW E2 hp2 hq rfl ⟨_, upd_same, rv.append (.cons r2 .nil)⟩)⟩
            · exact P2.elim
          · exact P2.elim
        · exact P2.elim
      · exact P1.elim
    · exact P1.elim)
end
end Np
set_option Elab.async false
set_option linter.all false
set_option maxRecDepth 100000
set_option maxHeartbeats 4000000
namespace Np
open PySem PySem.Spec PyProof.Rows L2
section
variable {W : Wp} {Wx : L2.St → XK} {tp0 tp tp' : Option Addr} {G0 G G' : GH} {H0 H H' : Hp} {σ : L2.St} {ρ : PEnv} {τ τ' : TS'} {D : Ends} {te tk tx : TE} {ta : TA} {δe δk δx : DE} {δa : DA}
theorem GS.push (G : GH) (p : Addr) : GS G ⟨G.hp, G.ads ++ [p]⟩ := ⟨Same.refl _, List.prefix_append _ _⟩
theorem OwR.push {a p : Addr} {c : OC} {F : List Addr} (w : OwR W G H a c F) : OwR W ⟨G.hp, G.ads ++ [p]⟩ H a c F := w.keep (GS.push G p) fun _ _ _ h => h
theorem Ext.push {a p : Addr} (e : Ext (some a) G0 H0 G H) (n : H0 p = none) : Ext (some a) G0 H0 ⟨G.hp, G.ads ++ [p]⟩ H :=
  ⟨e.g.trans (GS.push G p), e.h, e.f, e.x, fun q hq => by
    rcases List.mem_append.mp hq with hq | hq
    · exact e.w q hq
    · exact .inr (by rw [List.mem_singleton.mp hq]; exact n), fun z => (nomatch z)⟩
theorem NoM.push {a p q : Addr} (h : NoM (some a) G q) (n : q ≠ p) : NoM (some a) ⟨G.hp, G.ads ++ [p]⟩ q := fun b hb => ⟨(h b hb).1, fun z => by
  rcases List.mem_append.mp z with z | z
  · exact (h b hb).2 z
  · exact n (List.mem_singleton.mp z)⟩
/-- a thing that is nobody's comes into the store -/
theorem EnvV.adopt {a p : Addr} {t : Tau} {nd : Nd} (hW : StW W) (E : EnvV W (some a) G H σ ρ (some t)) (gp : G.hp p = none) (np : NoM (some a) G p) (fr : FreeP W G H σ ρ p) (h : NdR W ⟨G.hp, G.ads ++ [p]⟩ H p nd) :
    EnvV W (some a) ⟨G.hp, G.ads ++ [p]⟩ H σ ρ (some { t with st := t.st ++ [nd] }) ∧ (⟨G.hp, G.ads ++ [p]⟩ : GH).ads[t.st.length]? = some p := by
  have t0 : TapeR W G H a t := E.t
  have hl := t0.s.l
  have gs : GS G ⟨G.hp, G.ads ++ [p]⟩ := GS.push G p
  refine ⟨⟨⟨E.g.s, E.g.t, E.g.n⟩, Paired.mapI E.s fun j v q hv hq hs => ?_, fun i j b1 b2 c1 c2 F1 F2 h1 h2 h3 h4 w1 w2 => ?_, show TapeR W _ _ a _ from ⟨t0.g, ?_, t0.n, ?_⟩⟩, by show (G.ads ++ [p])[t.st.length]? = some p; rw [hl]; simp⟩
  · match v, q, hs with
    | _, none, _ => cases v <;> trivial
    | some v, some (.fr d), hs => exact Rp.mono gs hs
    | some v, some (.ow c), ⟨b, F, r, w, gn⟩ =>
      exact ⟨b, F, r, w.push, fun q hq' => ⟨(gn q hq').1, (gn q hq').2.push fun z => fr j c b F hq (by rw [hv, r]) w (by rw [← z]; exact hq')⟩⟩
    | some v, some .tape, hs => exact hs
    | some v, some (.scr ns), hs => exact hs
    | some v, some (.fn x), hs => exact hs
    | some v, some .thk, ⟨f, c, q, g, a1, b, s, n, hh⟩ => exact ⟨f, c, q, g, a1, b, s.trans gs, n.push (code_ne hh h.nt), hh⟩
  · obtain ⟨F1', w1', _⟩ := E.own h1 h3
    obtain ⟨F2', w2', _⟩ := E.own h2 h4
    have e1 := w1.uniq (OwR.push (p := p) w1')
    have e2 := w2.uniq (OwR.push (p := p) w2')
    subst e1 e2
    exact E.d i j b1 b2 c1 c2 _ _ h1 h2 h3 h4 w1' w2'
  · obtain ⟨c, h1, h2⟩ := t0.c
    exact ⟨c, h1, by rw [hW]; exact h2⟩
  · refine ⟨by simp [hl], ?_, ?_, ?_, ?_⟩
    · show (G.ads ++ [p]).Nodup
      rw [List.nodup_append]
      exact ⟨t0.s.d, by simp, fun x hx y hy z => by
        rw [List.mem_singleton.mp hy] at z
        exact (np a rfl).2 (by rw [← z]; exact hx)⟩
    · intro z
      rcases List.mem_append.mp z with z | z
      · exact t0.s.t z
      · exact (np a rfl).1 (List.mem_singleton.mp z).symm
    · intro k nd' b h1 h2 h3
      by_cases hk : k < t.st.length
      · rw [List.getElem?_append_left hk] at h1
        have h2 : (G.ads ++ [p])[k]? = some b := h2
        rw [List.getElem?_append_left (by omega)] at h2
        exact t0.s.g k nd' b h1 h2 h3
      · have hk2 : k = t.st.length := by
          have := (List.getElem?_eq_some_iff.mp h1).1
          simp at this
          omega
        subst hk2
        have h2 : (G.ads ++ [p])[t.st.length]? = some b := h2
        rw [hl] at h2
        simp at h2
        subst h2
        exact gp
    · intro k nd' b h1 h2
      by_cases hk : k < t.st.length
      · rw [List.getElem?_append_left hk] at h1
        have h2 : (G.ads ++ [p])[k]? = some b := h2
        rw [List.getElem?_append_left (by omega)] at h2
        exact (t0.s.n k nd' b h1 h2).keep gs fun u hu => hu
      · have hk2 : k = t.st.length := by
          have := (List.getElem?_eq_some_iff.mp h1).1
          simp at this
          omega
        subst hk2
        rw [List.getElem?_append_right (Nat.le_refl _)] at h1
        simp at h1
        subst h1
        have h2 : (G.ads ++ [p])[t.st.length]? = some b := h2
        rw [hl] at h2
        simp at h2
        subst h2
        exact h
def ndOf : OC → Option Nd
  | .lst xs => some (.lst xs)
  | .dK kvs => some (.dK kvs)
  | .tr _ _ => none
def pushSt (t : Tau) (nd : Nd) : Tau := { t with st := t.st ++ [nd] }
def putSt (t : Tau) (k : Nat) (nd : Nd) : Tau := { t with st := t.st.set k nd }
def dSto (e : PEnv → TS' → R OC) : DE := fun ρ τ => (e ρ τ).bind fun c τ1 => match τ1 with
  | some t => match ndOf c with
    | some nd => .ok (.ptr t.st.length) (some (pushSt t nd))
    | none => .no
  | none => .no
theorem dn_sto {δ : PEnv → TS' → R OC} (hW : StW W) (he : DnF W Wx te δ) : Dn W Wx te (dSto δ) := fun tp G H σ ρ τ Q E P => by
  refine he _ _ _ _ _ _ _ E ?_
  unfold dSto at P
  cases hd : δ ρ τ with
  | no => rw [hd] at P; exact P.elim
  | ex x τ1 => rw [hd] at P; exact P
  | ok c τ1 =>
    rw [hd] at P
    intro p F G' H' e E' w fr
    simp only [R.bind_ok] at P
    cases τ1 with
    | none => exact P.elim
    | some t =>
      cases tp with
      | none => exact (show False from E'.t).elim
      | some a =>
        dsimp only at P
        cases hn : ndOf c with
        | none => rw [hn] at P; exact P.elim
        | some nd =>
          rw [hn] at P
          have pF := w.mem
          obtain ⟨n0, gp, np⟩ := fr p pF
          have nr : NdR W ⟨G'.hp, G'.ads ++ [p]⟩ H' p nd := by
            cases c with
            | lst xs => cases hn; obtain ⟨_, vs, hv, r⟩ := w; exact ⟨vs, hv, r.mono (GS.push G' p)⟩
            | dK xs => cases hn; obtain ⟨_, vs, hv, r⟩ := w; exact ⟨vs, hv, r.mono (GS.push G' p)⟩
            | tr k ts => cases hn
          obtain ⟨E2, h2⟩ := E'.adopt hW gp np ((E.noO n0).ext E e) nr
          exact P (.ref p) _ _ (e.push n0) E2 (.ptr h2)
def objAt (st : List Nd) (k : Nat) : Option (Str × List (Str × DD)) := match st[k]? with
  | some (.obj C fs) => some (C, fs)
  | some (.fz (.obj C fs)) => some (C, fs)
  | _ => none
theorem EnvV.objS {t : Tau} {k : Nat} {C : Str} {fs : List (Str × DD)} {v : V} (E : EnvV W tp G H σ ρ (some t)) (r : Rp W.K W.cm G v (.ptr k)) (h : objAt t.st k = some (C, fs)) : ∃ a p dx vs, tp = some a ∧ v = .ref p ∧ G.ads[k]? = some p ∧ H p = some (.ins (W.cm C) dx vs) ∧ RpF W.K W.cm G vs fs := by
  unfold objAt at h
  split at h
  · rename_i C' fs' hk
    cases h
    obtain ⟨a, p, e1, e2, _, e3, dx, vs, e4, e5⟩ := E.sto r hk
    exact ⟨a, p, dx, vs, e1, e2, e3, e4, e5⟩
  · rename_i C' fs' hk
    cases h
    obtain ⟨a, p, e1, e2, _, e3, _, e5⟩ := E.sto r hk
    cases e5 with | obj e6 e7 => exact ⟨a, p, _, _, e1, e2, e3, E.g _ _ e6, e7⟩
  · cases h
/-- x.f -/
def dSFld (cls f : Str) (a : DE) : DE := fun ρ τ => (a ρ τ).bind fun x τ1 => match x, τ1 with
  | .ptr k, some t => match objAt t.st k with
    | some (C, fs) => if C = cls then R.of τ1 (fs.lookup f) else .no
    | none => .no
  | _, _ => .no
theorem dn_sfld {cls f : Str} (hC : Cls W.K (W.cm cls)) (hn : NoAttr W.K (W.cm cls) f) (he : Dn W Wx te δe) : Dn W Wx (tFld W.K te f) (dSFld cls f δe) := fun tp G H σ ρ τ Q E P =>
  he _ _ _ _ _ _ _ E (P.bind fun a τ1 x G1 H1 e1 E1 r1 P1 => by
    split at P1
    · rename_i k t
      split at P1
      · rename_i C fs ho
        by_cases hc : C = cls
        · subst hc
          rw [if_pos rfl] at P1
          obtain ⟨y, hy, P2⟩ := P1.of
          obtain ⟨a, p, dx, vs, rfl, rfl, _, hp, rf⟩ := E1.objS r1 ho
          obtain ⟨v, hv, rv⟩ := rf.look hy
          exact ⟨p, _, dx, vs, v, rfl, hp, hC, hn, hv, P2 _ G1 H1 Ext.refl E1 rv⟩
        · rw [if_neg hc] at P1
          exact P1.elim
      · exact P1.elim
    · exact P1.elim)
/-- x.f = e -/
def dSFSet (cls f : Str) (o e : DE) : DS := fun ρ τ => stE (e ρ τ) ρ fun d τ1 => stE (o ρ τ1) ρ fun x τ2 => match x, τ2 with
  | .ptr k, some t => match t.st[k]? with
    | some (.obj C fs) => if C = cls ∧ fs.length < 1000 then .ok (.nx ρ) (some (putSt t k (.obj C (putD f d fs)))) else .no
    | _ => .no
  | _, _ => .no
theorem EnvS.putO {a p dx : Addr} {cls f : Str} {t : Tau} {k : Nat} {fs : List (Str × DD)} {vs : List (Str × V)} {v : V} {d : DD} (hW : StW W) (E : EnvS W tp0 G0 H0 (some a) G H σ ρ (some t)) (hk : G.ads[k]? = some p) (h : t.st[k]? = some (.obj cls fs)) (hp : H p = some (.ins (W.cm cls) dx vs)) (rf : RpF W.K W.cm G vs fs) (r : Rp W.K W.cm G v d) :
    EnvS W tp0 G0 H0 (some a) G (upd H p (.ins (W.cm cls) dx (putF f v vs))) σ ρ (some (putSt t k (.obj cls (putD f d fs)))) :=
  EnvS.putM hW E hk h rfl ⟨dx, _, upd_same, RpF.put r rf⟩
theorem ds_sfset {cls f : Str} (hW : StW W) (hC : Cls W.K (W.cm cls)) (hn : NoAttr W.K (W.cm cls) f) (ho : Dn W Wx tx δx) (he : Dn W Wx te δe) : DnS W Wx (sFld W.K tx te f) (dSFSet cls f δx δe) := fun tp0 G0 H0 tp G H σ ρ τ D E P =>
  he _ _ _ _ _ _ _ E.v (P.bind E fun d τ1 y G1 H1 E1 e1 r1 P1 => ho _ _ _ _ _ _ _ E1.v (P1.bind E1 fun u τ2 w G2 H2 E2 e2 r2 P2 => by
    split at P2
    · rename_i k t
      split at P2
      · rename_i C fs hk
        by_cases hc : C = cls ∧ fs.length < 1000
        · rw [if_pos hc] at P2
          obtain ⟨rfl, hl⟩ := hc
          obtain ⟨a, p, rfl, rfl, hm, hp, dx, vs, hv, rf⟩ := E2.v.sto r2 hk
          exact ⟨p, _, dx, vs, rfl, hv, hC, hn, by rw [RpF.len rf]; exact hl, P2 (some a) _ _ σ (GS.refl _) (EnvS.putO hW E2 hp hk hv rf (r1.mono e2.g))⟩
        · rw [if_neg hc] at P2
          exact P2.elim
      · exact P2.elim
    · exact P2.elim))
def dSMeN (k : Nat) (cls m : Str) (F : Fn) (a : DE) (r : DPs) : DE := fun ρ τ => (a ρ τ).bind fun x τ1 => match x, τ1 with
  | .ptr q, some t => match objAt t.st q with
    | some (C, fs) => if C = cls ∧ fs.lookup m = none then (r ρ τ1).bind fun as τ2 => if as.length + 1 = k then (F (.fr (.ptr q) :: as) τ2).nox else .no
      else .no
    | none => .no
  | _, _ => .no
variable {tr : TA} {δr : DPs}
theorem dn_smeN {k : Nat} {cls m : Str} {C : Addr} {F : Fn} (hC : W.cm cls = C) (ha : Dn W Wx te δe) (hr : DnPs W Wx tr δr) : Dn W Wx (tMethE C m (spP W k F) W0 te tr) (dSMeN k cls m F δe δr) := fun tp G H σ ρ τ Q E P =>
  ha _ _ _ _ _ _ _ E (P.bind fun x τ1 v G1 H1 e1 E1 r1 P1 => by
    subst hC
    split at P1
    · rename_i q t
      split at P1
      · rename_i C fs ho
        by_cases h : C = cls ∧ fs.lookup m = none
        · rw [if_pos h] at P1
          obtain ⟨rfl, hl⟩ := h
          obtain ⟨a, p, dx, vs, rfl, rfl, _, hp, rf⟩ := E1.objS r1 ho
          refine ⟨p, dx, vs, rfl, hp, rf.lookN hl, hr _ _ _ _ _ _ _ E1 (P1.bind fun as τ2 zs G2 H2 e2 E2 r2 P2 => ?_)⟩
          by_cases hk : as.length + 1 = k
          · rw [if_pos hk] at P2
            refine ⟨by rw [List.length_cons, Paired.len r2]; exact hk, some a, G2, _, τ2, E2.g, .cons (show ArgR W (some a) G2 _ (.fr _) from r1.mono e2.g) r2, E2.t, ?_⟩
            revert P2
            cases F (.fr (.ptr q) :: as) τ2 with
            | ok d τ' => exact fun P1 v G' H' e s t r => P1 v G' H' e (E2.ext e s t) r
            | ex x τ' => exact fun P1 => P1.elim
            | no => exact fun P1 => P1.elim
          · rw [if_neg hk] at P2
            exact P2.elim
        · rw [if_neg h] at P1
          exact P1.elim
      · exact P1.elim
    · exact P1.elim)
/-- C(..): a new object that may change, its __init__ any def -/
def mkS (k : Nat) (cls : Str) (F : Fn) (as : List PV) (τ : TS') : R DD := match τ with
  | some t => if as.length + 1 = k then (F (.fr (.ptr t.st.length) :: as) (some (pushSt t (.obj cls [])))).bind fun d τ3 => match d with
      | .non => .ok (.ptr t.st.length) τ3
      | _ => .no
    else .no
  | none => .no
def dMkS (k n m : Nat) (cls : Str) (F : Fn) (g : List PV → List PV → List PV) (a b : DPs) : DE := fun ρ τ => (a ρ τ).bind fun as τ1 => (b ρ τ1).bind fun bs τ2 => if as.length = n ∧ bs.length = m then mkS k cls F (g as bs) τ2 else .no
def dMkSN (k n m : Nat) (cls : Str) (F : Fn) (g : List PV → List PV → List PV) (a b : DPs) : DE := fun ρ τ => (a ρ τ).bind fun as τ1 => (b ρ τ1).bind fun bs τ2 => if as.length = n ∧ bs.length = m then (mkS k cls F (g as bs) τ2).nox else .no
variable {tz : TA} {δz : DPs}
theorem mkS_run {k : Nat} {cls : Str} {F : Fn} {as : List PV} {vs : List V} {x dx : Addr} {Q : VK} {E' : XK} (hW : StW W) (E : EnvV W tp G H σ ρ τ) (r : Paired (ArgR W tp G) vs as) (nx : H x = none) (nd : H dx = none) (ne : dx ≠ x)
    (hq : match mkS k cls F as τ with
      | .ok d τ' => ∀ v G' H', Ext tp G H G' H' → EnvV W tp G' H' σ ρ τ' → Rp W.K W.cm G' v d → Q v H'
      | .ex y τ' => ∀ d G' H', Ext tp G H G' H' → EnvV W tp G' H' σ ρ τ' → ExR W G' H' y d → E' (.ref (W.cm y.cls)) d H'
      | .no => False) : spP W k F (.ref x :: vs) (upd (upd H dx (.own x)) x (.ins (W.cm cls) dx [])) (fun v H3 => v = .non ∧ Q (.ref x) H3) E' := by
  unfold mkS at hq
  cases τ with
  | none => exact hq.elim
  | some t =>
    cases tp with
    | none => exact (show False from E.t).elim
    | some a =>
      dsimp only at hq
      by_cases hk : as.length + 1 = k
      · rw [if_pos hk] at hq
        have nx' : upd H dx (.own x) x = none := by rw [upd_ne (Ne.symm ne)]; exact nx
        have e1 : Ext (some a) G H G (upd H dx (.own x)) := Ext.newH nd
        have E1 := E.newH (o := .own x) nd
        obtain ⟨e2, E2, h2⟩ := EnvV.newM hW E1 (nd := .obj cls []) (o := .ins (W.cm cls) dx []) nx' ⟨dx, [], upd_same, .nil⟩
        have E2 : EnvV W (some a) _ _ σ ρ (some (pushSt t (.obj cls []))) := E2
        have e12 := e1.trans e2
        refine ⟨by rw [List.length_cons, Paired.len r]; exact hk, some a, _, _, _, E2.g, .cons (show ArgR W (some a) _ _ (.fr (.ptr t.st.length)) from .ptr h2) (args_mono r e12.g), E2.t, ?_⟩
        generalize F (.fr (.ptr t.st.length) :: as) (some (pushSt t (.obj cls []))) = r0 at hq ⊢
        cases r0 with
        | ok d τ' =>
          intro v G' H' e s tt rv
          cases d <;> first | exact hq.elim | skip
          exact ⟨rv.non_of, hq (.ref x) G' H' (e12.trans e) (E2.ext e s tt) (.ptr (prefix_get e.g.a h2))⟩
        | ex y τ' => exact fun d G' H' e s tt hx => hq d G' H' (e12.trans e) (E2.ext e s tt) hx
        | no => exact hq.elim
      · rw [if_neg hk] at hq
        exact hq.elim
theorem dn_mkSN {k n m : Nat} {cls : Str} {C : Addr} {F : Fn} {dvs : List V} {dv : List PV} {ix : List Ix} (hW : StW W) (hC : W.cm cls = C) (hd : ∀ tp G, Paired (ArgR W tp G) dvs dv) (ha : DnPs W Wx tr δr) (hk : DnPs W Wx tz δz) :
    Dn W Wx (tMakeG C n m (spP W k F) (pickL dvs (.a 0 :: ix.map shIx)) W0 tr tz) (dMkSN k n m cls F (pickL dv ix) δr δz) := fun tp G H σ ρ τ Q E P =>
  ha _ _ _ _ _ _ _ E (P.bind fun as τ1 vs G1 H1 e1 E1 r1 P1 => hk _ _ _ _ _ _ _ E1 (P1.bind fun bs τ2 zs G2 H2 e2 E2 r2 P2 => by
    subst hC
    by_cases h : as.length = n ∧ bs.length = m
    · rw [if_pos h] at P2
      have r1' := args_mono r1 e2.g
      have hp := pick_rel (R := ArgR W tp G2) (hd tp G2) r1' r2 ix
      refine ⟨by rw [Paired.len r1']; exact h.1, by rw [Paired.len r2]; exact h.2, fun x dx nx nd ne => ?_⟩
      rw [pick_self]
      refine mkS_run hW E2 hp nx nd ne ?_
      revert P2
      cases mkS k cls F (pickL dv ix as bs) τ2 with
      | ok d τ' => exact fun P2 => P2
      | ex y τ' => exact fun P2 => P2.elim
      | no => exact fun P2 => P2
    · rw [if_neg h] at P2
      exact P2.elim))
def ddOf : Nd → Option DD
  | .lst xs => some (.lst xs)
  | .dK kvs => some (.dic kvs)
  | .obj C fs => some (.obj C fs)
  | _ => none
def lstAt (st : List Nd) (k : Nat) : Option (List DD) := match st[k]? with
  | some (.lst xs) => some xs
  | some (.fz (.lst xs)) => some xs
  | _ => none
theorem EnvV.lstS {t : Tau} {k : Nat} {xs : List DD} {v : V} (E : EnvV W tp G H σ ρ (some t)) (r : Rp W.K W.cm G v (.ptr k)) (h : lstAt t.st k = some xs) : ∃ p vs, v = .ref p ∧ H p = some (.lst vs) ∧ RpA W.K W.cm G vs xs := by
  unfold lstAt at h
  split at h
  · rename_i xs' hk
    cases h
    obtain ⟨a, p, e1, e2, _, e3, vs, e4, e5⟩ := E.sto r hk
    exact ⟨p, vs, e2, e4, e5⟩
  · rename_i xs' hk
    cases h
    obtain ⟨a, p, e1, e2, _, e3, _, e5⟩ := E.sto r hk
    cases e5 with | lst e6 e7 => exact ⟨p, _, e2, E.g _ _ e6, e7⟩
  · cases h
end
end Np
namespace Np
open PySem PySem.Spec PyProof.Rows L2
end Np
set_option Elab.async false
set_option linter.all false
set_option maxRecDepth 100000
set_option maxHeartbeats 4000000
namespace Np
open PySem PySem.Spec PyProof.Rows L2 LamX
section
variable {γ : Type} {X : Cx} {pins : List (Addr × Obj)} {σ : L2.St}
/-- one call of the key: the item x, its key's data k; g: what is known so far -/
def TurnG (X : Cx) (A : Around) (pins : List (Addr × Obj)) (σ : L2.St) (f : Addr) (J : γ → Hp → Prop) (MK : γ → V → PyData → Prop) (x : V) (k : PyData) : Prop :=
  ∀ (q : List (Addr × Obj)) (g : γ) (H : Hp) (s : Shared) (u : Value) (R : Value → Shared → Prop) (E : Value → Shared → Prop), Inv X (q ++ pins) σ H s → J g H → RelV x u →
    (∀ v w g' H' s', Inv X (q ++ pins) σ H' s' → RelV w v → J g' H' → MK g' w k → (∀ z p, MK g z p → MK g' z p) → R v s') → wpAny (model X.prog X.w) A (call (.ref f) [u]) R E s
theorem pin2 {H : Hp} {s : Shared} {S it : Addr} {oS oI : Obj} (I : Inv X pins σ H s) (rS : FbM.Rec X pins S) (rI : FbM.Rec X pins it) (uS : H S = none) (uI : H it = none) (hS : s.heap.get? S = some oS) (hI : s.heap.get? it = some oI) (cS : ∀ v, oS.data ≠ .cell v) (cI : ∀ v, oI.data ≠ .cell v)
    (nS : S ∉ X.fs) (nI : it ∉ X.fs) : Inv X ([(S, oS), (it, oI)] ++ pins) σ H s := I.pins_of fun p hp => by
  rcases List.mem_cons.mp hp with rfl | hp
  · exact ⟨hS, uS, rS.nl, nS, cS⟩
  · rcases List.mem_cons.mp hp with rfl | hp
    · exact ⟨hI, uI, rI.nl, nI, cI⟩
    · exact I.pin p (List.mem_append_right _ hp)
theorem min_loopG {S it l f : Addr} {xs : List V} {J : γ → Hp → Prop} {MK : γ → V → PyData → Prop} {p : Nat → PyData} {bt : Nat → Nat → Bool} {R : Result → Shared → Prop} (hh : X.A.in1.handled = none)
    (hl : ∀ g H', J g H' → SqL X.K H' l xs)
    (turn : ∀ (i : Nat) x, xs[i]? = some x → TurnG X X.A.in1 pins σ f J MK x (p i))
    (hc : ∀ i j u v ui vi g H' s', i < xs.length → j < xs.length → J g H' → MK g u (p i) → MK g v (p j) → Inv X pins σ H' s' → RelV u ui → RelV v vi → Ob.RcOp .Lt X.A.in1 s' ui vi (bt i j))
    (rS : FbM.Rec X pins S) (rI : FbM.Rec X pins it) (SI : S ≠ it) (lI : l ≠ it) (lS : l ≠ S) (nS : S ∉ X.fs) (nI : it ∉ X.fs) (kw : List (Str × Value))
    (hR : ∀ v x H' s', xs[argBest bt (xs.length - 1)]? = some x → RelV x v → ∀ g, J g H' → Inv X pins σ H' s' → R (.ok (.ret v)) s') :
    ∀ (m j : Nat) (s : Shared) (g : γ) (H : Hp) (vb kb : Value) (kbv xb : V) (c : Nat), xs.length - (j + 1) = m → j + 1 ≤ xs.length → Inv X pins σ H s → J g H → H S = none → H it = none → s.heap.IsListIter it l (j + 1) →
      xs[argBest bt j]? = some xb → RelV xb vb → MK g kbv (p (argBest bt j)) → RelV kbv kb → s.heap.get? S = some { cls := .type "list", dict := none, data := .seq #[vb, kb] c, slots := #[] } →
      codeAny (model X.prog X.w) X.A (.builtin "min.loop" ⟨[.ref it, .ref f, .ref S], kw⟩) R s := by
  have hname : (toString "min" ++ toString ".loop" : String) = "min.loop" := by decide
  intro m
  induction m with
  | zero =>
    intro j s g H vb kb kbv xb c hm hj I hJ uS uI hit hx rx hM rk hS
    have hin : j + 1 = xs.length := by omega
    obtain ⟨its, rv, pl, _⟩ := I.list (hl g H hJ)
    have none' : its.toArray[j + 1]? = none := by
      have := rv.length
      simp
      omega
    refine codeAny_builtin PySem.F.entry_min_loop ?_
    rw [Around.under_plainId PySem.F.plain_min_loop _]
    show wpAny _ X.A.in1 (seqItems? (.ref S) >>= _) _ _ s
    refine wpAny_bind (wpAny_seqItems hS rfl ?_)
    show wpAny _ X.A.in1 (tryCatch (pyNext (.ref it)) _ >>= _) _ _ s
    refine wpAny_bind (wpAny_tryCatch (wpAny_pyNext_list_end hh hit pl.isList none' fun h' he => ?_))
    have hS' := he S _ SI hS
    have I2 : Inv X pins σ H { s with heap := h' } := rI.turn (t' := s.toks) I uI fun c o hc e => he c o hc e
    show wpAny _ X.A.in1 (updateSeq S (fun _ => #[]) >>= _) _ _ _
    refine wpAny_bind ?_
    refine wpAny_updateSeq hS' rfl (wpAny_bind (wpAny_letGo (wpAny_pure ?_)))
    refine hR vb xb H _ (by rw [← hin]; exact hx) rx g hJ ?_
    exact rS.turn (t' := s.toks) I2 uS fun c o hc e => (Heap.get?_update_other _ _ (fun z => hc z.symm)).trans e
  | succ m ih =>
    intro j s g H vb kb kbv xb c hm hj I hJ uS uI hit hx rx hM rk hS
    have hlt : j + 1 < xs.length := by omega
    have hbl : argBest bt j < xs.length := (List.getElem?_eq_some_iff.mp hx).1
    obtain ⟨its, rv, pl, _⟩ := I.list (hl g H hJ)
    obtain ⟨u, hu, ru⟩ := rv.get (List.getElem?_eq_getElem hlt)
    refine codeAny_builtin PySem.F.entry_min_loop ?_
    rw [Around.under_plainId PySem.F.plain_min_loop _]
    show wpAny _ X.A.in1 (seqItems? (.ref S) >>= _) _ _ s
    refine wpAny_bind (wpAny_seqItems hS rfl ?_)
    show wpAny _ X.A.in1 (tryCatch (pyNext (.ref it)) _ >>= _) _ _ s
    refine wpAny_bind (wpAny_tryCatch (wpAny_pyNext_list_item hit pl.isList (by simpa using hu) fun h' hit' hs => ?_))
    have hS' : h'.get? S = some { cls := .type "list", dict := none, data := .seq #[vb, kb] c, slots := #[] } := hs.extBut _ _ SI hS
    have I2 : Inv X pins σ H { s with heap := h' } := rI.turn (t' := s.toks) I uI fun c o hc e => hs.extBut _ _ hc e
    show wpAny _ X.A.in1 (tryCatch (holding [u] (call (.ref f) [u])) _ >>= _) _ _ _
    obtain ⟨oI, hoI, hcI, hdI⟩ := id hit'
    refine wpAny_bind (wpAny_tryCatch (wpAny_holding (turn (j + 1) _ (List.getElem?_eq_getElem hlt) [(S, { cls := .type "list", dict := none, data := .seq #[vb, kb] c, slots := #[] }), (it, oI)] g H _ u _ _ (pin2 I2 rS rI uS uI hS' hoI (by intro v z; cases z) (by rw [hdI]; intro v z; cases z) nS nI) hJ ru fun kx kv g3 H3 s3 I30 rkx hJ3 hM3 hk3 => ?_)))
    have p1 := I30.pin _ (List.mem_append_right _ (List.mem_append_left _ List.mem_cons_self))
    have p2 := I30.pin _ (List.mem_append_right _ (List.mem_append_left _ (List.mem_cons_of_mem _ List.mem_cons_self)))
    have I3 : Inv X pins σ H3 s3 := I30.pins_of fun q hq => I30.pin q (List.mem_append_right _ (List.mem_append_right _ hq))
    have uS3 := p1.2.1
    have uI3 := p2.2.1
    have hS3 := p1.1
    have hI3 := p2.1
    have hit3 : s3.heap.IsListIter it l (j + 2) := ⟨oI, hI3, hcI, hdI⟩
    show wpAny _ X.A.in1 (tryCatch (holding [u, kx] (richCompare .Lt kx kb >>= _)) _ >>= _) _ _ _
    refine wpAny_bind (wpAny_tryCatch (wpAny_holding (wpAny_bind (hc (j + 1) (argBest bt j) kv kbv kx kb g3 H3 s3 hlt hbl hJ3 hM3 (hk3 _ _ hM) I3 rkx rk X.prog X.w _ _ ?_))))
    refine wpAny_bind (wpAny_holding (wpAny_truthy_bool ?_))
    refine wpAny_bind (wpAny_letGo (wpAny_pure ?_))
    cases hbt : bt (j + 1) (argBest bt j) with
    | true =>
      simp only [if_true]
      refine wpAny_bind ?_
      refine wpAny_updateSeq hS3 rfl (wpAny_bind (wpAny_letGo ?_))
      rw [hname]
      have I4 : Inv X pins σ H3 { s3 with heap := s3.heap.update S (Obj.mapSeq fun _ => #[u, kx]) } := rS.turn (t' := s3.toks) I3 uS3 fun c o hc e => (Heap.get?_update_other _ _ (fun z => hc z.symm)).trans e
      have hit4 : (s3.heap.update S (Obj.mapSeq fun _ => #[u, kx])).IsListIter it l (j + 2) := hit3.at fun o e => (Heap.get?_update_other _ _ SI).trans e
      refine wpAny_pure ⟨plainId_quiet PySem.F.plain_min_loop _, ih (j + 1) _ g3 H3 u kx kv xs[j + 1] _ (by omega) hlt I4 hJ3 uS3 uI3 hit4 ?_ ru ?_ rkx (Heap.get?_update_self _ hS3 rfl)⟩
      · simp only [argBest, hbt, if_true]; exact List.getElem?_eq_getElem hlt
      · simp only [argBest, hbt, if_true]; exact hM3
    | false =>
      simp only [Bool.false_eq_true, if_false]
      refine wpAny_bind (wpAny_letGo ?_)
      rw [hname]
      refine wpAny_pure ⟨plainId_quiet PySem.F.plain_min_loop _, ih (j + 1) _ g3 H3 vb kb kbv xb c (by omega) hlt I3 hJ3 uS3 uI3 hit3 ?_ rx ?_ rk hS3⟩
      · simp only [argBest, hbt, Bool.false_eq_true, if_false]; exact hx
      · simp only [argBest, hbt, Bool.false_eq_true, if_false]; exact hk3 _ _ hM
theorem min_keyG {l f : Addr} {g0 : γ} {J : γ → Hp → Prop} {MK : γ → V → PyData → Prop} {p : Nat → PyData} {xs : List V} {H : Hp} {s : Shared} {Q : VK} (hcm : X.calm = true) (hr : X.A.units + 66 < cLine) (hn : 0 < xs.length) (hl : ∀ g H', J g H' → SqL X.K H' l xs)
    (hp : ∀ i j, i < xs.length → j < xs.length → PySem.W.alike (p i) (p j) = true ∧ (p i).depth ≤ 64 ∧ p i ≠ .none) (hdp : ∀ g H w k, J g H → MK g w k → Dp X.K H w k)
    (turn : ∀ (i : Nat) x, xs[i]? = some x → TurnG X X.A.in1 pins σ f J MK x (p i)) (I : Inv X pins σ H s) (hJ : J g0 H)
    (hq : ∀ x g H', xs[argBest (fun i j => PySem.W.dataLt (p i) (p j)) (xs.length - 1)]? = some x → J g H' → Q x H') : wpAny (model X.prog X.w) X.A (call (.builtin "min") [.ref l] [(Str.ofString "key", .ref f)]) (EP X pins σ Q) X.xe s := by
  obtain ⟨its, rv, pl, _⟩ := I.list (hl g0 H hJ)
  have ll : l < s.heap.objs.size := by obtain ⟨o, n, e, _⟩ := pl; exact Heap.lt_size e
  have hh : X.A.in1.handled = none := I.ok.hd hcm
  have hu : ∀ {d e : PyData}, d.depth ≤ 64 → X.A.in1.units + min d.depth e.depth < cLine := fun {d e} hd => by
    show X.A.units + 1 + _ < _
    omega
  have hname : (toString "min" ++ toString ".loop" : String) = "min.loop" := by decide
  refine kmk_tree PySem.F.kind_min PySem.F.plain_min PySem.F.entry_min (kmk_min_key _ _) ?_
  show wpAny _ X.A.in1 (Builtin.Builtins.bindParams "min" ["key", "default"] 0 ⟨[], [(Str.ofString "key", .ref f)]⟩ >>= _) _ _ s
  refine wpAny_bind (wpAny_of_eq (show Builtin.Builtins.bindParams "min" ["key", "default"] 0 ⟨[], [(Str.ofString "key", .ref f)]⟩ = pure [some (.ref f), none] from rfl) ?_)
  refine wpAny_bind (wpAny_pure ?_)
  refine wpAny_bind (wpAny_pyIter_list pl.isList ?_)
  refine wpAny_bind (wpAny_newObj_type ?_)
  rw [hname]
  have sz1 : (s.heap.push { cls := .type "list_iterator", data := .fields #[.ref l, .int 0 0] }).objs.size = s.heap.objs.size + 1 := Heap.size_push ..
  have I1 : Inv X pins σ H { s with heap := s.heap.push { cls := .type "list_iterator", data := .fields #[.ref l, .int 0 0] } } := I.kept (t' := s.toks) fun b o e => Heap.get?_push_of_some _ e
  have I2 : Inv X pins σ H { s with heap := (s.heap.push { cls := .type "list_iterator", data := .fields #[.ref l, .int 0 0] }).push { cls := .type "list", data := .seq #[] 0 } } := I1.kept (t' := s.toks) fun b o e => Heap.get?_push_of_some _ e
  have rI : FbM.Rec X pins s.heap.objs.size := FbM.rec_new I (Nat.le_refl _)
  have rS : FbM.Rec X pins (s.heap.push { cls := .type "list_iterator", data := .fields #[.ref l, .int 0 0] }).objs.size := FbM.rec_new I (by rw [sz1]; exact Nat.le_succ _)
  have uI : H s.heap.objs.size = none := I.hok.fresh (Nat.le_refl _)
  have uS : H (s.heap.push { cls := .type "list_iterator", data := .fields #[.ref l, .int 0 0] }).objs.size = none := I.hok.fresh (by rw [sz1]; exact Nat.le_succ _)
  have nI : s.heap.objs.size ∉ X.fs := I.nofs (Nat.le_refl _)
  have nS : (s.heap.push { cls := .type "list_iterator", data := .fields #[.ref l, .int 0 0] }).objs.size ∉ X.fs := I.nofs (by rw [sz1]; exact Nat.le_succ _)
  have SI : (s.heap.push { cls := .type "list_iterator", data := .fields #[.ref l, .int 0 0] }).objs.size ≠ s.heap.objs.size := by rw [sz1]; exact Nat.succ_ne_self _
  have lI : l ≠ s.heap.objs.size := Nat.ne_of_lt ll
  have lS : l ≠ (s.heap.push { cls := .type "list_iterator", data := .fields #[.ref l, .int 0 0] }).objs.size := by rw [sz1]; exact Nat.ne_of_lt (Nat.lt_succ_of_lt ll)
  have hit : ((s.heap.push { cls := .type "list_iterator", data := .fields #[.ref l, .int 0 0] }).push { cls := .type "list", data := .seq #[] 0 }).IsListIter s.heap.objs.size l 0 := ⟨_, Heap.get?_push_of_some _ (Heap.get?_push_size _ rfl), rfl, rfl⟩
  have hS : ((s.heap.push { cls := .type "list_iterator", data := .fields #[.ref l, .int 0 0] }).push { cls := .type "list", data := .seq #[] 0 }).get? (s.heap.push { cls := .type "list_iterator", data := .fields #[.ref l, .int 0 0] }).objs.size = some { cls := .type "list", dict := none, data := .seq #[] 0, slots := #[] } := Heap.get?_push_size _ rfl
  generalize (s.heap.push { cls := .type "list_iterator", data := .fields #[.ref l, .int 0 0] }).objs.size = S at *
  generalize (s.heap.push { cls := .type "list_iterator", data := .fields #[.ref l, .int 0 0] }).push { cls := .type "list", data := .seq #[] 0 } = h2 at *
  generalize s.heap.objs.size = it at *
  refine wpAny_pure ⟨plainId_quiet PySem.F.plain_min_loop _, ?_⟩
  -- the first
  obtain ⟨its2, rv2, pl2, _⟩ := I2.list (hl g0 H hJ)
  obtain ⟨u, hu0, ru⟩ := rv2.get (List.getElem?_eq_getElem hn)
  refine codeAny_builtin PySem.F.entry_min_loop ?_
  rw [Around.under_plainId PySem.F.plain_min_loop _]
  show wpAny _ X.A.in1 (seqItems? (.ref S) >>= _) _ _ _
  refine wpAny_bind (wpAny_seqItems hS rfl ?_)
  show wpAny _ X.A.in1 (tryCatch (pyNext (.ref it)) _ >>= _) _ _ _
  refine wpAny_bind (wpAny_tryCatch (wpAny_pyNext_list_item hit pl2.isList (by simpa using hu0) fun h' hit' hs => ?_))
  have hS' : h'.get? S = some { cls := .type "list", dict := none, data := .seq #[] 0, slots := #[] } := hs.extBut _ _ SI hS
  have I3 : Inv X pins σ H { ({ s with heap := h2 } : Shared) with heap := h' } := FbM.Rec.turn (s := { s with heap := h2 }) (t' := s.toks) rI I2 uI fun c o hc e => hs.extBut _ _ hc e
  show wpAny _ X.A.in1 (tryCatch (holding [u] (call (.ref f) [u])) _ >>= _) _ _ _
  obtain ⟨oI, hoI, hcI, hdI⟩ := id hit'
  refine wpAny_bind (wpAny_tryCatch (wpAny_holding (turn 0 _ (List.getElem?_eq_getElem hn) [(S, { cls := .type "list", dict := none, data := .seq #[] 0, slots := #[] }), (it, oI)] g0 H _ u _ _ (pin2 I3 rS rI uS uI hS' hoI (by intro v z; cases z) (by rw [hdI]; intro v z; cases z) nS nI) hJ ru fun kx kv g3 H3 s3 I30 rkx hJ3 hM3 hk3 => ?_)))
  have p1 := I30.pin _ (List.mem_append_right _ (List.mem_append_left _ List.mem_cons_self))
  have p2 := I30.pin _ (List.mem_append_right _ (List.mem_append_left _ (List.mem_cons_of_mem _ List.mem_cons_self)))
  have I4 : Inv X pins σ H3 s3 := I30.pins_of fun q hq => I30.pin q (List.mem_append_right _ (List.mem_append_right _ hq))
  have uS3 := p1.2.1
  have uI3 := p2.2.1
  have hS3 := p1.1
  have hI3 := p2.1
  have hit3 : s3.heap.IsListIter it l 1 := ⟨oI, hI3, hcI, hdI⟩
  show wpAny _ X.A.in1 (updateSeq S (fun _ => #[u, kx]) >>= _) _ _ _
  refine wpAny_bind ?_
  refine wpAny_updateSeq hS3 rfl ?_
  rw [hname]
  have I5 : Inv X pins σ H3 { s3 with heap := s3.heap.update S (Obj.mapSeq fun _ => #[u, kx]) } := rS.turn (t' := s3.toks) I4 uS3 fun c o hc e => (Heap.get?_update_other _ _ (fun z => hc z.symm)).trans e
  have hit4 : (s3.heap.update S (Obj.mapSeq fun _ => #[u, kx])).IsListIter it l 1 := hit3.at fun o e => (Heap.get?_update_other _ _ SI).trans e
  refine wpAny_pure ⟨plainId_quiet PySem.F.plain_min_loop _, min_loopG (J := J) (MK := MK) (p := p) (bt := fun i j => PySem.W.dataLt (p i) (p j)) hh hl turn (fun i j a b ai bi g H' s' hi hj hJ' h1 h2 I' r1 r2 => ?_) rS rI SI lI lS nS nI _ (fun v x H' s' hx rx g hJ' I' => ⟨x, H', I', rx, hq x g H' hx hJ'⟩) _ 0 _ g3 H3 u kx kv xs[0] _ rfl hn I5 hJ3 uS3 uI3 hit4 (List.getElem?_eq_getElem hn) ru hM3 rkx (Heap.get?_update_self _ hS3 rfl)⟩
  obtain ⟨as, ra⟩ := Dp.reads I' _ _ _ (hdp _ _ _ _ hJ' h1) r1
  obtain ⟨bs, rb⟩ := Dp.reads I' _ _ _ (hdp _ _ _ _ hJ' h2) r2
  obtain ⟨q1, q2, q3⟩ := hp i j hi hj
  exact PySem.W.rcLt_alike (p i) (p j) X.A.in1 s' ai bi as bs ra rb q1 q3 (hu q2)
end
end Np
set_option Elab.async false
set_option linter.all false
set_option maxRecDepth 100000
set_option maxHeartbeats 4000000
namespace Np
open PySem PySem.Spec PyProof.Rows L2 LamX
theorem lam_turnG {γ : Type} {X : Cx} {A : Around} {pins : List (Addr × Obj)} {σ : L2.St} {p : Str} {i k : Nat} {params : Arguments} {body : Expr} {scope : Scope} {tb : TE} {f c' : Addr} {J : γ → Hp → Prop} {MK : γ → V → PyData → Prop} {x : V} {kd : PyData} (hfr : A.frames = X.A.frames) (L : LamS1 p X.env.scope scope) (nd : X.N.Nodup) (hi : X.N[i]? = some p)
    (hb : ∀ (cl : List (Str × Addr)) (q : Str) (pm cd ctv : Value) (u : Value), bindArgs (PySem.W.kla_fn "<lambda>" q params body scope cl pm cd ctv) ⟨[u], []⟩ = pure [(p, u)]) (hr : Room (k + 1) A)
    (hbody : ∀ (A : Around) (outer : List Env) (s : Shared) (H : Hp) (f c' : Addr), Room k (A.deeper (lamEnv X scope s.heap.objs.size f c')) → A.guards = X.A.guards → PE (lamCx X A outer s H E0 scope f c') body tb) (hg : A.guards = X.A.guards)
    (jf : ∀ g H', J g H' → H' f = some (LamO f c' (X.env.qual ++ "<lambda>") params body scope (cloFrom X.env.cells scope.names [])) ∧ H' c' = some (CodeO c' (X.env.qual ++ "<lambda>")))
    (h : ∀ g H', J g H' → tb (σ.set i (some x)) H' fun w H'' => ∃ g', J g' H'' ∧ MK g' w kd ∧ ∀ z p, MK g z p → MK g' z p) : TurnG X A pins σ f J MK x kd := fun q g H s u R E I hJ rx hR => by
  obtain ⟨jl, jc⟩ := jf g H hJ
  obtain ⟨⟨pm, ctv, hf⟩, _, _⟩ := I.hok f _ jl
  have e := I.env0
  refine lam_call I L nd hi hf jc (fun u => hb _ _ _ _ _ u) ⟨hfr.trans e.frames, e.mod, e.bs, e.bsz, e.funs, e.frf, e.hok, e.bare⟩ hr (fun hr' => hbody _ _ _ _ _ _ hr' hg) rx (h g H hJ) fun v s' ⟨w, H', I', rw', g', j', dw, mo⟩ => hR v w g' H' s' I' rw' j' dw mo
/-- what a key brings: l the list, f, c' the lambda and its code, J what is known, MK what the keys so far are -/
structure KeyR (γ : Type) (K : PySem.W.Frag) (mk : Addr → Addr → HO) (q : Str) (i : Nat) (tb : TE) (σ : L2.St) (vs zs : List V) (H : Hp) (l f c' : Addr) (xs : List V) (g0 : γ) (J : γ → Hp → Prop) (MK : γ → V → PyData → Prop) (p : Nat → PyData) : Prop where
  v : vs = [.ref l]
  z : zs = [.ref f]
  f : ∀ g H', J g H' → H' f = some (mk f c') ∧ H' c' = some (CodeO c' q)
  l : ∀ g H', J g H' → SqL K H' l xs
  j : J g0 H
  d : ∀ g H w k, J g H → MK g w k → Dp K H w k
  t : ∀ (j : Nat) x g H', xs[j]? = some x → J g H' → tb (σ.set i (some x)) H' fun w H'' => ∃ g', J g' H'' ∧ MK g' w (p j) ∧ ∀ z p, MK g z p → MK g' z p
def rBestS (lt : PyData → PyData → Bool) (K : PySem.W.Frag) (mk : Addr → Addr → HO) (q : Str) (i : Nat) (tb : TE) : L2.St → List V → List V → Hp → VK → Prop := fun σ vs zs H Q => ∃ (γ : Type) (l f c' : Addr) (xs : List V) (g0 : γ) (J : γ → Hp → Prop) (MK : γ → V → PyData → Prop) (p : Nat → PyData),
  KeyR γ K mk q i tb σ vs zs H l f c' xs g0 J MK p ∧ 0 < xs.length ∧ (∀ i j, i < xs.length → j < xs.length → PySem.W.alike (p i) (p j) = true ∧ (p i).depth ≤ 64 ∧ p i ≠ .none) ∧ ∀ x g H', xs[argBest (fun i j => lt (p i) (p j)) (xs.length - 1)]? = some x → J g H' → Q x H'
section
variable {X : Cx} {p : Str} {i k : Nat} {params : Arguments} {body : Expr} {scope : Scope} {tb : TE}
theorem cr_minS (hcm : X.calm = true) (L : LamS1 p X.env.scope scope) (nd : X.N.Nodup) (hi : X.N[i]? = some p)
    (hb : ∀ (cl : List (Str × Addr)) (q : Str) (pm cd ctv : Value) (u : Value), bindArgs (PySem.W.kla_fn "<lambda>" q params body scope cl pm cd ctv) ⟨[u], []⟩ = pure [(p, u)]) (hr : Room (k + 3) X.A)
    (hbody : ∀ (A : Around) (outer : List Env) (s : Shared) (H : Hp) (f c' : Addr), Room k (A.deeper (lamEnv X scope s.heap.objs.size f c')) → A.guards = X.A.guards → PE (lamCx X A outer s H E0 scope f c') body tb) :
    CallKS X (.builtin "min") [Str.ofString "key"] (rBestS (fun a b => PySem.W.dataLt a b) X.K (fun f c' => LamO f c' (X.env.qual ++ "<lambda>") params body scope (cloFrom X.env.cells scope.names [])) (X.env.qual ++ "<lambda>") i tb) := fun pins s σ H vs zs us ws Q I r rz h => by
  obtain ⟨γ, l, f, c', xs, g0, J, MK, p, h, hn, hp, hq⟩ := h
  obtain ⟨rfl, rfl, hf, hl, hJ, hdp, ht⟩ := h
  obtain rfl := Vals.ref1 r
  cases rz with | cons rz rr =>
  cases rr
  cases rz
  exact min_keyG (J := J) (MK := MK) (p := p) hcm (by have := hr.un; omega) hn hl hp hdp (fun j x hx => lam_turnG (A := X.A.in1) rfl L nd hi hb ((hr.mono (by omega)).in1) hbody rfl hf fun g H' hJ' => ht j x g H' hx hJ') I hJ hq
theorem pe_keyS {P c : Addr} {T : List (Addr × Str)} {e : Expr} {x : Str} {ta : TA} {id : String} {r : L2.St → List V → List V → Hp → VK → Prop} {p0 pos lpos kpos : Pos} (hcr : CallKS X (.builtin id) [Str.ofString "key"] r) (fr : ∀ y ∈ scope.names, y.2 = .free → X.env.scope.names.lookup y.1 = some .cell ∨ X.env.scope.names.lookup y.1 = some .free)
    (B : TabB X.base X.mg c P) (hc : X.env.code = .ref c) (hm : (P, X.env.qual ++ "<lambda>") ∈ T) (hu : ∀ q ∈ T, q.1 = P → q.2 = X.env.qual ++ "<lambda>") (hdef : defaultsOf params X.env = ([], []))
    (hg : Gl X x) (hx : X.mg x = none) (hv : bootBuiltins x = some (.builtin id)) (ha : PA X [e] ta) (hn : x ≠ "__name__" := by decide) (hdb : (x == ("__debug__" : Str)) = false := by decide)
    (h1 : backTo pos (starEach [e] X.env) = (false, eval e X.env) :: backTo pos (starEach [] X.env) := by rfl) (h2 : (backTo pos (starEach [e] X.env)).any (·.1) = false := by rfl)
    (h3 : (backToKw pos (keywordEach [⟨some "key", .Lambda params body scope lpos, kpos⟩] X.env)).all (·.1.isSome) = true := by rfl) (h4 : (backToKw pos (keywordEach [⟨some "key", .Lambda params body scope lpos, kpos⟩] X.env)).any (·.1.isNone) = false := by rfl) (h5 : (backToKw pos (keywordEach [⟨some "key", .Lambda params body scope lpos, kpos⟩] X.env)).filterMap (·.1) = [Str.ofString "key"] := by rfl) :
    PE X (.Call (.Name x p0) [e] [⟨some "key", .Lambda params body scope lpos, kpos⟩] pos) (tKS r ta (tCons (tLamV T P (fun f c' => LamO f c' (X.env.qual ++ "<lambda>") params body scope (cloFrom X.env.cells scope.names [])) (X.env.qual ++ "<lambda>")) tNil)) :=
  pe_callKS hcr hg hx hv ha (pk_cons (pe_lam B hc hm hu hdef fr) pk_nil) hn hdb h1 h2 h3 h4 h5
end
open Classical in
noncomputable def keysS (b : DE) (i : Nat) (ρ : PEnv) (τ : TS') : List DD → Option (List PyData)
  | [] => some []
  | d :: ds => match b (ρ.set i (some (.fr d))) τ with
    | .ok kd τ' => if τ' = τ then (match toPy kd, keysS b i ρ τ ds with
      | some p, some ps => some (p :: ps)
      | _, _ => none) else none
    | _ => none
open Classical in
noncomputable def gBestS (best : List PyData → Nat) (ds : List DD) (ks : Option (List PyData)) : Option DD := match ks with
  | some ps => if 0 < ds.length ∧ keysOk ps then ds[best ps]? else none
  | none => none
noncomputable def dBestSt (best : List PyData → Nat) (i : Nat) (b : DE) (a : DA) : DE := fun ρ τ => (a ρ τ).bind fun xs τ1 => match xs with
  | [.lst ds] => R.of τ1 (gBestS best ds (keysS b i ρ τ1 ds))
  | _ => .no
theorem keysS_len {b : DE} {i : Nat} {ρ : PEnv} {τ : TS'} : ∀ {ds : List DD} {ps : List PyData}, keysS b i ρ τ ds = some ps → ps.length = ds.length
  | [], ps, h => by unfold keysS at h; cases h; rfl
  | d :: ds, ps, h => by
    unfold keysS at h
    split at h
    · split at h
      · split at h
        · rename_i hp hk
          cases h
          rw [List.length_cons, List.length_cons, keysS_len hk]
        · cases h
      · cases h
    · cases h
theorem keysS_get {b : DE} {n : Nat} {ρ : PEnv} {τ : TS'} : ∀ {ds : List DD} {ps : List PyData} {j : Nat} {d : DD}, keysS b n ρ τ ds = some ps → ds[j]? = some d → ∃ kd p, b (ρ.set n (some (.fr d))) τ = .ok kd τ ∧ toPy kd = some p ∧ ps[j]? = some p
  | [], ps, j, d, h, hd => by simp at hd
  | d0 :: ds, ps, j, d, h, hd => by
    unfold keysS at h
    split at h
    · rename_i kd τ' e
      split at h
      · rename_i ht
        subst ht
        split at h
        · rename_i p qs hp hk
          cases h
          cases j with
          | zero =>
            simp only [List.getElem?_cons_zero, Option.some.injEq] at hd
            subst hd
            exact ⟨kd, p, e, hp, rfl⟩
          | succ j =>
            obtain ⟨k2, p2, a, b, c⟩ := keysS_get hk (by simpa using hd)
            exact ⟨k2, p2, a, b, by simpa using c⟩
        · cases h
      · cases h
    · cases h
section
variable {W : Wp} {Wx : L2.St → XK} {ta : TA} {δa : DA} {tb : TE} {δb : DE}
/-- what the key's rule wants, of a key judged -/
theorem keyR_of {P : Addr} {mk : Addr → Addr → HO} {q : Str} {i : Nat} {tp : Option Addr} {G1 : GH} {H1 H2 : Hp} {σ : L2.St} {ρ : PEnv} {τ1 : TS'} {l f c' : Addr} {us : List V} {ds : List DD} {ps : List PyData} (E1 : EnvV W tp G1 H1 σ ρ τ1) (hb : Dn W W0 tb δb) (hl : G1 l = some (.lst us)) (ra : RpA W.K W.cm G1 us ds) (hk : keysS δb i ρ τ1 ds = some ps)
    (M : LamMade W.T P H1 H2) (hf : H2 f = some (mk f c')) (hc : H2 c' = some (CodeO c' q)) (nf : NoM tp G1 f) (nc : NoM tp G1 c') (tf : (mk f c').tb = false) :
    KeyR GH W.K mk q i tb σ [.ref l] [.ref f] H2 l f c' us G1 (fun G' H' => Ext tp G1 H2 G' H' ∧ EnvV W tp G' H' σ ρ τ1) (fun G' w k => ∃ d, Rp W.K W.cm G' w d ∧ toPy d = some k) (fun j => ps.getD j .none) := by
  obtain ⟨e2, s2⟩ := M.ext E1.g
  have E2 := E1.grow e2 s2
  refine ⟨rfl, rfl, fun g H' ⟨e, _⟩ => ⟨e.h f _ nf tf hf, e.h c' _ nc rfl hc⟩, fun g H' ⟨e, E'⟩ => SqL.of (E'.g _ _ (e.g.s _ _ hl)), ⟨Ext.refl, E2⟩, fun g H w k ⟨_, E'⟩ ⟨d, r, hp⟩ => (Rp.mono E'.g.gs r).dp hp, fun j x g H' hx ⟨e, E'⟩ => ?_⟩
  obtain ⟨d, hd, rd⟩ := RpA.get' ra hx
  obtain ⟨kd, pk, hF, hp, hpi⟩ := keysS_get hk hd
  refine hb _ _ _ _ _ _ _ (E'.setF (i := i) (Rp.mono e.g rd)) ?_
  rw [hF]
  intro v G'' H'' e'' E'' r''
  refine ⟨G'', ⟨e.trans e'', E'.ext e'' E''.g E''.t⟩, ⟨kd, r'', ?_⟩, fun z p ⟨d, r, hp⟩ => ⟨d, r.mono e''.g, hp⟩⟩
  rw [hp, List.getD_eq_getElem?_getD, hpi]
  rfl
theorem code_noM {tp : Option Addr} {G : GH} {H H2 : Hp} {σ : L2.St} {ρ : PEnv} {τ : TS'} {P c : Addr} {o : HO} (E : EnvV W tp G H σ ρ τ) (M : LamMade W.T P H H2) (h : H2 c = some o) (hn : o.nt = false) : NoM tp G c := fun a ha => by
  subst ha
  cases τ with
  | none => exact (show False from E.t).elim
  | some t =>
    have t0 : TapeR W G H a t := E.t
    have nope : NT H c → False := fun ⟨u, hu, hun⟩ => by
      have hc : c ≠ P := fun z => by
        have := M.p u (by rw [← z]; exact hu)
        rw [nt_tb hun] at this
        cases this
      have := M.k c u hc hu
      rw [h] at this
      cases this
      rw [hn] at hun
      cases hun
    exact ⟨fun z => nope (by rw [z]; exact t0.n), fun z => nope (t0.s.nt c z)⟩
theorem dn_bestSt {P : Addr} {mk : Addr → Addr → HO} {q : Str} {i : Nat} {lt : PyData → PyData → Bool} {best : List PyData → Nat} (hbest : ∀ ps, best ps = argBest (fun i j => lt (ps.getD i .none) (ps.getD j .none)) (ps.length - 1)) (hmk : ∀ f c, (mk f c).nt = false ∧ (mk f c).tb = false) (ha : DnA W Wx ta δa) (hb : Dn W W0 tb δb) : Dn W Wx (tKS (rBestS lt W.K mk q i tb) ta (tCons (tLamV W.T P mk q) tNil)) (dBestSt best i δb δa) := fun tp G H σ ρ τ Q E Pq =>
  ha _ _ _ _ _ _ _ E (Pq.bind fun as τ1 vs G1 H1 e1 E1 r1 P1 => by
    split at P1
    · rename_i ds
      cases r1 with | cons r rr =>
      cases rr
      cases r with | lst hl ra =>
      rename_i l us
      obtain ⟨d, hd, P2⟩ := P1.of
      unfold gBestS at hd
      split at hd
      · rename_i ps hk
        split at hd
        · rename_i hok
          obtain ⟨hn, hok⟩ := hok
          have pl := keysS_len hk
          have ul := ra.length
          refine ⟨E1.g.t, fun f c' H2 M nf hf hc => ?_⟩
          obtain ⟨e2, s2⟩ := M.ext E1.g
          refine ⟨GH, l, f, c', us, G1, _, _, _, keyR_of E1 hb hl ra hk M hf hc (code_noM E1 M hf (hmk f c').1) (code_noM E1 M hc rfl) (hmk f c').2, by omega, fun i j hi hj => ?_, fun x g H' hx ⟨e', E'⟩ => ?_⟩
          · have h1 : ps.getD i .none ∈ ps := by rw [List.getD_eq_getElem?_getD, List.getElem?_eq_getElem (by omega)]; exact List.getElem_mem _
            have h2 : ps.getD j .none ∈ ps := by rw [List.getD_eq_getElem?_getD, List.getElem?_eq_getElem (by omega)]; exact List.getElem_mem _
            exact ⟨(hok _ h1).1 _ h2, (hok _ h1).2⟩
          · have e : us.length - 1 = ps.length - 1 := by omega
            rw [e, ← hbest] at hx
            obtain ⟨d2, hd2, r2⟩ := RpA.get' ra hx
            rw [hd] at hd2
            cases hd2
            exact P2 x g H' (e2.weak.trans e') E' (Rp.mono e'.g r2)
        · cases hd
      · cases hd
    · exact P1.elim)
end
end Np
set_option Elab.async false
set_option linter.all false
set_option maxRecDepth 100000
set_option maxHeartbeats 4000000
namespace Np
open PySem PySem.Spec PyProof.Rows L2
end Np
set_option Elab.async false
set_option linter.all false
set_option maxRecDepth 100000
set_option maxHeartbeats 4000000
namespace Np
open PySem PySem.Spec PyProof.Rows L2
end Np
set_option Elab.async false
set_option linter.all false
set_option maxRecDepth 100000
set_option maxHeartbeats 4000000
namespace Np
open PySem PySem.Spec PyProof.Rows L2
def keyD : DD → Option Key
  | .int i => some (.inl i)
  | .str x => some (.inr x)
  | _ => none
def valD (kvs : List (Key × DD)) (k : Key) : Option DD := (kvs.find? fun kv => decide (kv.1 = k)).map (·.2)
def putKD (kvs : List (Key × DD)) (k : Key) (v : DD) : List (Key × DD) :=
  if (kvs.any fun kv => decide (kv.1 = k)) = true then kvs.map (fun kv => if kv.1 = k then (kv.1, v) else kv) else kvs ++ [(k, v)]
def mergeD (kvs more : List (Key × DD)) : List (Key × DD) := more.foldl (fun acc kv => putKD acc kv.1 kv.2) kvs
def keysDD : List (DD × DD) → Option (List (Key × DD))
  | [] => some []
  | (k, v) :: r => match keyD k, keysDD r with
    | some k, some r => some ((k, v) :: r)
    | _, _ => none
section
variable {K : PySem.W.Frag} {cm : CM} {H : GH}
theorem Rp.key {v : V} {d : DD} {k : Key} (r : Rp K cm H v d) (h : keyD d = some k) : v = kV k := by
  cases d <;> first | (cases h; done) | skip
  · cases h; exact r.int_of
  · cases h; exact r.str_of
theorem RpK.val : ∀ {xs : List (Key × V)} {ds : List (Key × DD)} (k : Key), RpK K cm H xs ds → (∃ v d, valV xs k = some v ∧ valD ds k = some d ∧ Rp K cm H v d) ∨ (valV xs k = none ∧ valD ds k = none)
  | _, _, k, .nil => .inr ⟨rfl, rfl⟩
  | (k', v) :: xs, (_, d) :: ds, k, .cons h r => by
    by_cases e : k' = k
    · refine .inl ⟨v, d, ?_, ?_, h⟩
      · unfold valV; rw [List.find?_cons_of_pos (by simpa using e)]; rfl
      · unfold valD; rw [List.find?_cons_of_pos (by simpa using e)]; rfl
    · have e1 : valV ((k', v) :: xs) k = valV xs k := by unfold valV; rw [List.find?_cons_of_neg (by simpa using e)]
      have e2 : valD ((k', d) :: ds) k = valD ds k := by unfold valD; rw [List.find?_cons_of_neg (by simpa using e)]
      rw [e1, e2]
      exact RpK.val k r
theorem RpK.any (k : Key) : ∀ {xs : List (Key × V)} {ds : List (Key × DD)}, RpK K cm H xs ds → (xs.any fun kv => decide (kv.1 = k)) = (ds.any fun kv => decide (kv.1 = k))
  | _, _, .nil => rfl
  | _, _, .cons h r => by rw [List.any_cons, List.any_cons, RpK.any k r]
theorem RpK.app : ∀ {xs xs' : List (Key × V)} {ds ds' : List (Key × DD)}, RpK K cm H xs ds → RpK K cm H xs' ds' → RpK K cm H (xs ++ xs') (ds ++ ds')
  | _, _, _, _, .nil, s => s
  | _, _, _, _, .cons h r, s => .cons h (RpK.app r s)
theorem RpK.over {k : Key} {v : V} {d : DD} (h : Rp K cm H v d) : ∀ {xs : List (Key × V)} {ds : List (Key × DD)}, RpK K cm H xs ds → RpK K cm H (xs.map fun kv => if kv.1 = k then (kv.1, v) else kv) (ds.map fun kv => if kv.1 = k then (kv.1, d) else kv)
  | _, _, .nil => .nil
  | (k', _) :: _, (_, _) :: _, .cons h' r => by
    rw [List.map_cons, List.map_cons]
    by_cases e : k' = k
    · rw [if_pos e, if_pos e]; exact .cons h (RpK.over h r)
    · rw [if_neg e, if_neg e]; exact .cons h' (RpK.over h r)
theorem RpK.put {xs : List (Key × V)} {ds : List (Key × DD)} {k : Key} {v : V} {d : DD} (r : RpK K cm H xs ds) (h : Rp K cm H v d) : RpK K cm H (putK xs k v) (putKD ds k d) := by
  unfold putK putKD
  rw [r.any k]
  split
  · exact r.over h
  · exact r.app (.cons h .nil)
theorem RpK.len : ∀ {xs : List (Key × V)} {ds : List (Key × DD)}, RpK K cm H xs ds → xs.length = ds.length
  | _, _, .nil => rfl
  | _, _, .cons _ r => congrArg Nat.succ (RpK.len r)
end
section
variable {W : Wp} {Wx : L2.St → XK} {tp : Option Addr} {G G2 : GH} {H H2 : Hp} {σ : L2.St} {ρ : PEnv} {τ τ2 : TS'} {p : Addr} {o o1 : HO}
def dPairs : List (DE × DE) → PEnv → TS' → R (List (DD × DD))
  | [], _, τ => .ok [] τ
  | (a, b) :: r, ρ, τ => (a ρ τ).bind fun x τ1 => (b ρ τ1).bind fun y τ2 => (dPairs r ρ τ2).bind fun ps τ3 => .ok ((x, y) :: ps) τ3
def dDisp (l : List (DE × DE)) : DE := fun ρ τ => (dPairs l ρ τ).bind fun ps τ1 => match keysDD ps with
  | some kvs => if kvs.length ≤ 15 then .ok (.dic (mergeD [] kvs)) τ1 else .no
  | none => .no
end
section
variable {W : Wp} {Wx : L2.St → XK} {td ty tx : TE} {δd δy δx : DE}
def dDGet (d y : DE) : DE := fun ρ τ => (d ρ τ).bind fun x τ1 => (y ρ τ1).bind fun k τ2 => match x, keyD k with
  | .dic kvs, some k => R.of τ2 (valD kvs k)
  | _, _ => .no
def dDIn (neg : Bool) (y d : DE) : DE := fun ρ τ => (y ρ τ).bind fun k τ1 => (d ρ τ1).bind fun x τ2 => match x, keyD k with
  | .dic kvs, some k => .ok (.bl (if neg then !(valD kvs k).isSome else (valD kvs k).isSome)) τ2
  | _, _ => .no
def dDGet2 (d y x : DE) : DE := fun ρ τ => (d ρ τ).bind fun c τ1 => match c with
  | .dic kvs => (y ρ τ1).bind fun k τ2 => (x ρ τ2).bind fun z τ3 => match keyD k with
    | some k => .ok ((valD kvs k).getD z) τ3
    | none => .no
  | _ => .no
end
end Np
set_option Elab.async false
set_option linter.all false
set_option maxRecDepth 100000
set_option maxHeartbeats 4000000
namespace Np
open PySem PySem.Spec PyProof.Rows L2
def tbl : List Str → List Bool → Str → Option Bool
  | n :: ns, v :: vs, s => if s = n then some v else tbl ns vs s
  | _, _, _ => none
section
variable {W : Wp} {Wx : L2.St → XK} {ta : TA} {δa : DA}
def hStrX (F : Fn) (C : Str) (fs : List (Str × DD)) (τ1 : TS') : R DD := (F [.fr (.exc C fs)] τ1).nox.bind fun d τ2 => match d with
  | .str z => .ok (.str z) τ2
  | _ => .no
def dStrX3 (c1 : Str) (F1 : Fn) (c2 : Str) (F2 : Fn) (c3 : Str) (F3 : Fn) (a : DA) : DE := fun ρ τ => (a ρ τ).bind fun xs τ1 => match xs with
  | [.exc C fs] => if C = c1 then hStrX F1 C fs τ1 else if C = c2 then hStrX F2 C fs τ1 else if C = c3 then hStrX F3 C fs τ1 else .no
  | _ => .no
end
def gStrA : DD → Option DD
  | .int i => if i.natAbs.log2 < 1920 then some (.str (toString i)) else none
  | .str x => some (.str x)
  | .non => some (.str "None")
  | _ => none
end Np
set_option Elab.async false
set_option linter.all false
set_option maxRecDepth 100000
set_option maxHeartbeats 4000000
namespace Np
open PySem PySem.Spec PyProof.Rows L2
structure GDict (P : Program) (w : World) (K : PySem.W.Frag) (a : Addr) (kvs : List (Key × V)) : Prop where
  low : (a == sysModules) = false
  ht : ∀ h, K.In h → ∃ vs, KV kvs vs ∧ h.DictOf (mixKind P w) a vs
/-- entries and what they stand for -/
def Ents (w : World) : List DictEntry → List (Key × V) → Prop := Paired fun e p => e.hash = keyH w p.1 ∧ keyIs p.1 e.key = true ∧ RelV p.2 e.val
theorem ents_kv {w : World} : ∀ {es : List DictEntry} {kvs : List (Key × V)}, Ents w es kvs → KV kvs (es.zip kvs |>.map fun z => (z.2.1, z.1.val))
  | _, _, .nil => .nil
  | _, _, .cons h r => .cons ⟨rfl, h.2.2⟩ (ents_kv r)
theorem ents_keys {w : World} {P : Program} : ∀ {es : List DictEntry} {kvs : List (Key × V)}, Ents w es kvs → ∀ e ∈ es, ∃ k, (mixKind P w).is k e.key = true ∧ e.hash = (mixKind P w).hash k
  | _, _, .nil, e, he => by cases he
  | _, _, .cons h r, e, he => by
    rcases List.mem_cons.mp he with rfl | he
    · exact ⟨_, h.2.1, h.1⟩
    · exact ents_keys r e he
theorem ents_pairs {w : World} {P : Program} : ∀ {es : List DictEntry} {kvs : List (Key × V)}, Ents w es kvs → Pairs (mixKind P w) es (es.zip kvs |>.map fun z => (z.2.1, z.1.val))
  | _, _, .nil => .nil
  | _, _, .cons h r => .cons h.2.1 rfl (ents_pairs r)
theorem ents_fst {w : World} : ∀ {es : List DictEntry} {kvs : List (Key × V)}, Ents w es kvs → ((es.zip kvs |>.map fun z => (z.2.1, z.1.val)).map (·.1)) = kvs.map (·.1)
  | _, _, .nil => rfl
  | _, _, .cons h r => by
    have := ents_fst r
    simp only [List.zip_cons_cons, List.map_cons] at this ⊢
    rw [this]
theorem GDict.of {P : Program} {w : World} {K : PySem.W.Frag} {a : Addr} {es : Array DictEntry} {n : Nat} {kvs : List (Key × V)} (hl : K.lookup a = some ⟨.type "dict", none, .dict es n, #[]⟩) (low : (a == sysModules) = false) (h : Ents w es.toList kvs) (nd : (kvs.map (·.1)).Nodup) : GDict P w K a kvs :=
  ⟨low, fun h' hi => ⟨_, ents_kv h, ⟨_, es, n, hi _ _ hl, ⟨rfl, rfl, rfl⟩, rfl, fun e he => ents_keys h e (by simpa using he), ents_pairs h, by rw [ents_fst h]; exact nd⟩⟩⟩
def tv (kvs : List (Key × Str)) : List (Key × V) := kvs.map fun p => (p.1, .str p.2)
end Np
set_option Elab.async false
set_option linter.all false
set_option maxRecDepth 100000
set_option maxHeartbeats 4000000
namespace Np
open PySem PySem.Spec PyProof.Rows L2
structure GDictI (P : Program) (w : World) (K : PySem.W.Frag) (a : Addr) (kvs : List (Key × V)) (o : Obj) (es : Array DictEntry) (ep : Nat) : Prop where
  low : (a == sysModules) = false
  lk : K.lookup a = some o
  ex : o.ExactDict
  dt : o.data = .dict es ep
  sz : es.size = kvs.length
  en : Ents w es.toList kvs
  nd : (kvs.map (·.1)).Nodup
theorem GDictI.of {P : Program} {w : World} {K : PySem.W.Frag} {a : Addr} {es : Array DictEntry} {n : Nat} {kvs : List (Key × V)} (hl : K.lookup a = some ⟨.type "dict", none, .dict es n, #[]⟩) (low : (a == sysModules) = false) (h : Ents w es.toList kvs) (nd : (kvs.map (·.1)).Nodup) : GDictI P w K a kvs ⟨.type "dict", none, .dict es n, #[]⟩ es n :=
  ⟨low, hl, ⟨rfl, rfl, rfl⟩, rfl, by rw [← Array.length_toList]; exact Paired.length h, h, nd⟩
theorem GDictI.at {P : Program} {w : World} {K : PySem.W.Frag} {a : Addr} {kvs : List (Key × V)} {o : Obj} {es : Array DictEntry} {ep : Nat} (D : GDictI P w K a kvs o es ep) {h : Heap} (hi : K.In h) :
    ∃ vs : List (Key × Value), h.get? a = some o ∧ KV kvs vs ∧ h.DictAt (mixKind P w) a vs ep :=
  ⟨_, hi _ _ D.lk, ents_kv D.en, o, es, hi _ _ D.lk, D.ex, D.dt, fun e he => ents_keys D.en e (by simpa using he), ents_pairs D.en, by rw [ents_fst D.en]; exact D.nd⟩
end Np
set_option Elab.async false
set_option linter.all false
set_option maxRecDepth 100000
set_option maxHeartbeats 4000000
namespace Np
open PySem PySem.Spec PyProof.Rows L2
section
variable {W : Wp} {Wx : L2.St → XK}
theorem RpA.dropLast {K : PySem.W.Frag} {cm : CM} {H : GH} : ∀ {v : List V} {d : List DD}, RpA K cm H v d → RpA K cm H v.dropLast d.dropLast
  | _, _, .nil => .nil
  | _, _, .cons a .nil => .nil
  | _, _, .cons a (.cons b r) => .cons a (RpA.dropLast (.cons b r))
def dPop2 (i j k l : Nat) : DS := fun ρ τ => match ρ[i]?, ρ[j]? with
  | some (some (.ow (.lst xs))), some (some (.ow (.lst ys))) => if i = j then .no else match xs[xs.length - 1]?, ys[ys.length - 1]? with
    | some x, some y => .ok (.nx ((((ρ.set i (some (.ow (.lst xs.dropLast)))).set j (some (.ow (.lst ys.dropLast)))).set k (some (.fr x))).set l (some (.fr y)))) τ
    | _, _ => .no
  | _, _ => .no
def ePop2 (o1 o2 : Option (Option PV)) (i j k l : Nat) (ρ : PEnv) (τ : TS') : R Ct := match o1, o2 with
  | some (some (.ow (.lst xs))), some (some (.ow (.lst ys))) => if i = j then .no else match xs[xs.length - 1]?, ys[ys.length - 1]? with
    | some x, some y => .ok (.nx ((((ρ.set i (some (.ow (.lst xs.dropLast)))).set j (some (.ow (.lst ys.dropLast)))).set k (some (.fr x))).set l (some (.fr y)))) τ
    | _, _ => .no
  | _, _ => .no
@[simp] theorem ev_Pop2 {i j k l : Nat} {ρ : PEnv} {τ : TS'} : dPop2 i j k l ρ τ = ePop2 ρ[i]? ρ[j]? i j k l ρ τ := by
  unfold dPop2 ePop2
  rfl
end
end Np
set_option Elab.async false
set_option linter.all false
set_option maxRecDepth 100000
set_option maxHeartbeats 4000000
namespace Np
open PySem PySem.Spec PyProof.Rows L2
/-- a handler: the class's name and where that stands, the name, the suite -/
structure HdS where
  x : Str
  np : Pos
  n : Str
  i : Nat
  c : Value
  b₀ : Stmt
  suite : List Stmt
  pos : Pos
  ts : TS
def HdS.h (h : HdS) : ExceptHandler := .ExceptHandler (some (.Name h.x h.np)) (some h.n) (h.b₀ :: h.suite) h.pos
end Np
set_option Elab.async false
set_option linter.all false
set_option maxRecDepth 100000
set_option maxHeartbeats 4000000
namespace Np
open PySem PySem.Spec PyProof.Rows L2
mutual
def noLs : DD → Bool
  | .lst _ => false
  | .tup ds => noLsA ds
  | .tux ds => noLsA ds
  | .dic ks => noLsK ks
  | .obj _ fs => noLsF fs
  | .exc _ fs => noLsF fs
  | _ => true
def noLsA : List DD → Bool
  | [] => true
  | d :: ds => noLs d && noLsA ds
def noLsK : List (Key × DD) → Bool
  | [] => true
  | (_, d) :: ds => noLs d && noLsK ds
def noLsF : List (Str × DD) → Bool
  | [] => true
  | (_, d) :: ds => noLs d && noLsF ds
end
section
variable {W : Wp} {Wx : L2.St → XK} {tp : Option Addr} {G G1 G2 : GH} {H H2 : Hp} {σ : L2.St} {ρ : PEnv} {τ : TS'} {te : TE} {φ : PEnv → TS' → R OC}
def dBorF (i : Nat) (φ : PEnv → TS' → R OC) : PEnv → TS' → R OC := fun ρ τ => match ρ[i]? with
  | some (some (.ow (.lst zs))) => match φ (bor i (.lst zs) ρ) none with
    | .ok (.lst xs) _ => if noLsA xs = true then .ok (.lst xs) τ else .no
    | _ => .no
  | _ => .no
end
end Np
set_option Elab.async false
set_option linter.all false
set_option maxRecDepth 100000
set_option maxHeartbeats 4000000
namespace Np
open PySem PySem.Spec PyProof.Rows L2
def gRevX : DD → Option DD
  | .tux ds => some (.tux ds.reverse)
  | _ => none
section
variable {W : Wp} {Wx : L2.St → XK} {ta : TE} {δa : DE} {ρ : PEnv} {τ : TS'}
def dRevF (δ : DE) : PEnv → TS' → R OC := fun ρ τ => (δ ρ τ).bind fun d τ1 => match d with
  | .lst xs => .ok (.lst xs.reverse) τ1
  | _ => .no
def eRevF (r : R DD) : R OC := r.bind fun d τ1 => match d with
  | .lst xs => .ok (.lst xs.reverse) τ1
  | _ => .no
@[simp] theorem ev_RevF : dRevF δa ρ τ = eRevF (δa ρ τ) := id rfl
@[simp] theorem eRevF_ok {xs : List DD} : eRevF (.ok (.lst xs) τ) = .ok (.lst xs.reverse) τ := id rfl
@[simp] theorem eRevF_ex {x : Ex} : eRevF (.ex x τ) = .ex x τ := id rfl
def eBorF (o : Option (Option PV)) (i : Nat) (φ : PEnv → TS' → R OC) (ρ : PEnv) (τ : TS') : R OC := match o with
  | some (some (.ow (.lst zs))) => match φ (bor i (.lst zs) ρ) none with
    | .ok (.lst xs) _ => if noLsA xs = true then .ok (.lst xs) τ else .no
    | _ => .no
  | _ => .no
def eBorF2 (r : R OC) (τ : TS') : R OC := match r with
    | .ok (.lst xs) _ => if noLsA xs = true then .ok (.lst xs) τ else .no
    | _ => .no
@[simp] theorem ev_BorF {i : Nat} {φ : PEnv → TS' → R OC} : dBorF i φ ρ τ = eBorF ρ[i]? i φ ρ τ := id rfl
@[simp] theorem eBorF_ok {i : Nat} {φ : PEnv → TS' → R OC} {zs : List DD} : eBorF (some (some (.ow (.lst zs)))) i φ ρ τ = eBorF2 (φ (bor i (.lst zs) ρ) none) τ := id rfl
@[simp] theorem eBorF2_ok {xs : List DD} {τ' : TS'} : eBorF2 (.ok (.lst xs) τ') τ = if noLsA xs = true then .ok (.lst xs) τ else .no := id rfl
end
@[simp] theorem gRevX_eq {ds : List DD} : gRevX (.tux ds) = some (.tux ds.reverse) := id rfl
end Np
set_option Elab.async false
set_option linter.all false
set_option maxRecDepth 100000
set_option maxHeartbeats 4000000
namespace Np
open PySem PySem.Spec PyProof.Rows L2
structure RoomQ (k : Nat) (A : Around) : Prop where
  dp : A.depth + 3 * k + 5 < recursionLimit
  un : A.units + 16 * k + 200 < cLine
theorem RoomQ.of {k j : Nat} {A B : Around} (h : Room k A) (d : B.depth = A.depth) (u : B.units = A.units) (e : j ≤ k) : RoomQ j B := ⟨by have := h.dp; omega, by have := h.un; omega⟩
/-- A with nothing handled -/
def calmed (A : Around) : Around := { A with handled := none }
theorem RoomQ.calm {k : Nat} {A : Around} (h : RoomQ k A) : Room k (calmed A) := ⟨rfl, h.dp, h.un⟩
end Np
set_option Elab.async false
set_option linter.all false
set_option maxRecDepth 100000
set_option maxHeartbeats 4000000
namespace Np
open PySem PySem.Spec PyProof.Rows L2 CwR
end Np
set_option Elab.async false
set_option linter.all false
set_option maxRecDepth 100000
set_option maxHeartbeats 4000000
namespace Np
open PySem PySem.Spec PyProof.Rows L2 CwR
end Np
set_option Elab.async false
set_option linter.all false
set_option maxRecDepth 100000
set_option maxHeartbeats 4000000
namespace Np
open PySem PySem.Spec PyProof.Rows L2 CwR
end Np
set_option Elab.async false
set_option linter.all false
set_option maxRecDepth 100000
set_option maxHeartbeats 4000000
namespace Np
open PySem PySem.Spec PyProof.Rows L2
end Np
set_option Elab.async false
set_option linter.all false
set_option maxRecDepth 100000
namespace Np
open PySem PySem.Spec PyProof.Rows L2
section
variable {ρ : PEnv} {τ τ' : TS'} {a b d x y : DE} {δ δh : DS} {c z : DD} {k : Key} {kvs : List (Key × DD)} {l : List (DE × DE)} {ps : List (DD × DD)} {da : DA} {e : Ex}
def ePr3 (r : R (List (DD × DD))) (x y : DD) : R (List (DD × DD)) := r.bind fun ps τ3 => .ok ((x, y) :: ps) τ3
def ePr2 (r : R DD) (x : DD) (l : List (DE × DE)) (ρ : PEnv) : R (List (DD × DD)) := r.bind fun y τ2 => (dPairs l ρ τ2).bind fun ps τ3 => .ok ((x, y) :: ps) τ3
def ePr1 (r : R DD) (b : DE) (l : List (DE × DE)) (ρ : PEnv) : R (List (DD × DD)) := r.bind fun x τ1 => (b ρ τ1).bind fun y τ2 => (dPairs l ρ τ2).bind fun ps τ3 => .ok ((x, y) :: ps) τ3
@[simp] theorem dPairs_nil : dPairs [] ρ τ = .ok [] τ := id rfl
@[simp] theorem dPairs_cons : dPairs ((a, b) :: l) ρ τ = ePr1 (a ρ τ) b l ρ := id rfl
@[simp] theorem ePr1_ok : ePr1 (.ok c τ) b l ρ = ePr2 (b ρ τ) c l ρ := id rfl
@[simp] theorem ePr2_ok : ePr2 (.ok z τ) c l ρ = ePr3 (dPairs l ρ τ) c z := id rfl
@[simp] theorem ePr3_ok : ePr3 (.ok ps τ) c z = .ok ((c, z) :: ps) τ := id rfl
def hDisp (o : Option (List (Key × DD))) (τ : TS') : R DD := match o with
  | some kvs => if kvs.length ≤ 15 then .ok (.dic (mergeD [] kvs)) τ else .no
  | none => .no
def eDisp (r : R (List (DD × DD))) : R DD := r.bind fun ps τ1 => hDisp (keysDD ps) τ1
@[simp] theorem ev_Disp : dDisp l ρ τ = eDisp (dPairs l ρ τ) := id rfl
@[simp] theorem eDisp_ok : eDisp (.ok ps τ) = hDisp (keysDD ps) τ := id rfl
@[simp] theorem hDisp_ok : hDisp (some kvs) τ = if kvs.length ≤ 15 then .ok (.dic (mergeD [] kvs)) τ else .no := id rfl
@[simp] theorem keysDD_nil : keysDD [] = some [] := id rfl
def kc2 (k : Option Key) (v : DD) (r : Option (List (Key × DD))) : Option (List (Key × DD)) := match k, r with
  | some k, some r => some ((k, v) :: r)
  | _, _ => none
@[simp] theorem keysDD_cons : keysDD ((c, z) :: ps) = kc2 (keyD c) z (keysDD ps) := id rfl
@[simp] theorem kc2_ok : kc2 (some k) z (some kvs) = some ((k, z) :: kvs) := id rfl
@[simp] theorem keyD_int {i : Int} : keyD (.int i) = some (.inl i) := id rfl
@[simp] theorem keyD_str {i : PySem.Str} : keyD (.str i) = some (.inr i) := id rfl
def hGet (c : DD) (o : Option Key) (τ : TS') : R DD := match c, o with
  | .dic kvs, some k => R.of τ (valD kvs k)
  | _, _ => .no
def eGet2 (r : R DD) (c : DD) : R DD := r.bind fun k τ2 => hGet c (keyD k) τ2
def eGet1 (r : R DD) (y : DE) (ρ : PEnv) : R DD := r.bind fun x τ1 => (y ρ τ1).bind fun k τ2 => hGet x (keyD k) τ2
@[simp] theorem ev_DGet : dDGet d y ρ τ = eGet1 (d ρ τ) y ρ := id rfl
@[simp] theorem eGet1_ok : eGet1 (.ok c τ) y ρ = eGet2 (y ρ τ) c := id rfl
@[simp] theorem eGet2_ok : eGet2 (.ok z τ) c = hGet c (keyD z) τ := id rfl
@[simp] theorem hGet_ok : hGet (.dic kvs) (some k) τ = R.of τ (valD kvs k) := id rfl
def hIn (neg : Bool) (c : DD) (o : Option Key) (τ : TS') : R DD := match c, o with
  | .dic kvs, some k => .ok (.bl (if neg then !(valD kvs k).isSome else (valD kvs k).isSome)) τ
  | _, _ => .no
def eIn2 (r : R DD) (neg : Bool) (k : DD) : R DD := r.bind fun x τ2 => hIn neg x (keyD k) τ2
def eIn1 (r : R DD) (neg : Bool) (d : DE) (ρ : PEnv) : R DD := r.bind fun k τ1 => (d ρ τ1).bind fun x τ2 => hIn neg x (keyD k) τ2
@[simp] theorem ev_DIn {neg : Bool} : dDIn neg y d ρ τ = eIn1 (y ρ τ) neg d ρ := id rfl
@[simp] theorem eIn1_ok {neg : Bool} : eIn1 (.ok c τ) neg d ρ = eIn2 (d ρ τ) neg c := id rfl
@[simp] theorem eIn2_ok {neg : Bool} : eIn2 (.ok z τ) neg c = hIn neg z (keyD c) τ := id rfl
@[simp] theorem hIn_f : hIn false (.dic kvs) (some k) τ = .ok (.bl (valD kvs k).isSome) τ := id rfl
@[simp] theorem hIn_t : hIn true (.dic kvs) (some k) τ = .ok (.bl (!(valD kvs k).isSome)) τ := id rfl
def hGt3 (kvs : List (Key × DD)) (o : Option Key) (z : DD) (τ : TS') : R DD := match o with
  | some k => .ok ((valD kvs k).getD z) τ
  | none => .no
def eGt3 (r : R DD) (kvs : List (Key × DD)) (k : DD) : R DD := r.bind fun z τ3 => hGt3 kvs (keyD k) z τ3
def eGt2 (r : R DD) (kvs : List (Key × DD)) (x : DE) (ρ : PEnv) : R DD := r.bind fun k τ2 => (x ρ τ2).bind fun z τ3 => hGt3 kvs (keyD k) z τ3
def eGt1 (r : R DD) (y x : DE) (ρ : PEnv) : R DD := r.bind fun c τ1 => match c with
  | .dic kvs => (y ρ τ1).bind fun k τ2 => (x ρ τ2).bind fun z τ3 => hGt3 kvs (keyD k) z τ3
  | _ => .no
@[simp] theorem ev_DGet2 : dDGet2 d y x ρ τ = eGt1 (d ρ τ) y x ρ := id rfl
@[simp] theorem eGt1_ok : eGt1 (.ok (.dic kvs) τ) y x ρ = eGt2 (y ρ τ) kvs x ρ := id rfl
@[simp] theorem eGt2_ok : eGt2 (.ok c τ) kvs x ρ = eGt3 (x ρ τ) kvs c := id rfl
@[simp] theorem eGt3_ok : eGt3 (.ok z τ) kvs c = hGt3 kvs (keyD c) z τ := id rfl
@[simp] theorem hGt3_ok : hGt3 kvs (some k) z τ = .ok ((valD kvs k).getD z) τ := id rfl
def hStr3 (c1 : PySem.Str) (F1 : Fn) (c2 : PySem.Str) (F2 : Fn) (c3 : PySem.Str) (F3 : Fn) (C : PySem.Str) (fs : List (PySem.Str × DD)) (τ1 : TS') : R DD :=
  if C = c1 then hStrX F1 C fs τ1 else if C = c2 then hStrX F2 C fs τ1 else if C = c3 then hStrX F3 C fs τ1 else .no
def eStr3 (r : R (List DD)) (c1 : PySem.Str) (F1 : Fn) (c2 : PySem.Str) (F2 : Fn) (c3 : PySem.Str) (F3 : Fn) : R DD := r.bind fun xs τ1 => match xs with
  | [.exc C fs] => hStr3 c1 F1 c2 F2 c3 F3 C fs τ1
  | _ => .no
@[simp] theorem ev_StrX3 {c1 c2 c3 : PySem.Str} {F1 F2 F3 : Fn} : dStrX3 c1 F1 c2 F2 c3 F3 da ρ τ = eStr3 (da ρ τ) c1 F1 c2 F2 c3 F3 := id rfl
@[simp] theorem eStr3_ok {c1 c2 c3 C : PySem.Str} {F1 F2 F3 : Fn} {fs : List (PySem.Str × DD)} : eStr3 (.ok [.exc C fs] τ) c1 F1 c2 F2 c3 F3 = hStr3 c1 F1 c2 F2 c3 F3 C fs τ := id rfl
def hSx (r : R DD) : R DD := r.nox.bind fun d τ2 => match d with
  | .str z => .ok (.str z) τ2
  | _ => .no
@[simp] theorem hStrX_ev {F : Fn} {C : PySem.Str} {fs : List (PySem.Str × DD)} : hStrX F C fs τ = hSx (F [.fr (.exc C fs)] τ) := id rfl
@[simp] theorem hSx_ok {z : PySem.Str} : hSx (.ok (.str z) τ) = .ok (.str z) τ := id rfl
@[simp] theorem gStrA_int {i : Int} : gStrA (.int i) = if i.natAbs.log2 < 1920 then some (.str (toString i)) else none := id rfl
@[simp] theorem gStrA_str {i : PySem.Str} : gStrA (.str i) = some (.str i) := id rfl
@[simp] theorem gStrA_non : gStrA .non = some (.str "None") := id rfl
end
end Np
set_option Elab.async false
set_option linter.all false
set_option maxRecDepth 100000
set_option maxHeartbeats 4000000
namespace Np
open PySem PySem.Spec PyProof.Rows L2
section
variable {ρ : PEnv} {τ τ' : TS'} {a b e o : DE} {r s : DPs} {k n m : Nat} {F : Fn} {g : List PV → List PV → List PV} {as bs : List PV} {cls mm f C : PySem.Str} {fs : List (PySem.Str × DD)} {d x y z : DD} {t : Tau} {nd nd' : Nd} {op : DD → DD → Option DD}
@[simp] theorem putSt_push : putSt (pushSt t nd) t.st.length nd' = pushSt t nd' := by
  unfold putSt pushSt
  dsimp only
  rw [List.set_append_right _ _ (Nat.le_refl _), Nat.sub_self]
  rfl
@[simp] theorem pushSt_get : (pushSt t nd).st[t.st.length]? = some nd := by
  unfold pushSt
  simp
@[simp] theorem objAt_push : objAt (pushSt t (.obj C fs)).st t.st.length = some (C, fs) := by
  unfold objAt
  rw [pushSt_get]
theorem Tn.push {N : Nat} (h : Tn N t) : Tn N (pushSt t nd) := ⟨h.a0, h.a1, h.l0⟩
def eSFld (r : R DD) (cls f : PySem.Str) : R DD := r.bind fun x τ1 => match x, τ1 with
  | .ptr k, some t => match objAt t.st k with
    | some (C, fs) => if C = cls then R.of τ1 (fs.lookup f) else .no
    | none => .no
  | _, _ => .no
@[simp] theorem ev_SFld : dSFld cls f a ρ τ = eSFld (a ρ τ) cls f := id rfl
@[simp] theorem eSFld_at (h : objAt t.st k = some (cls, fs)) : eSFld (.ok (.ptr k) (some t)) cls f = R.of (some t) (fs.lookup f) := by
  show (match objAt t.st k with | some (C, fs) => _ | none => _) = _
  rw [h]
  exact if_pos rfl
def eSFSet2 (r : R DD) (cls f : PySem.Str) (ρ : PEnv) (d : DD) : R Ct := stE r ρ fun x τ2 => match x, τ2 with
  | .ptr k, some t => match t.st[k]? with
    | some (.obj C fs) => if C = cls ∧ fs.length < 1000 then .ok (.nx ρ) (some (putSt t k (.obj C (putD f d fs)))) else .no
    | _ => .no
  | _, _ => .no
def eSFSet1 (r : R DD) (cls f : PySem.Str) (o : DE) (ρ : PEnv) : R Ct := stE r ρ fun d τ1 => eSFSet2 (o ρ τ1) cls f ρ d
@[simp] theorem ev_SFSet : dSFSet cls f o e ρ τ = eSFSet1 (e ρ τ) cls f o ρ := id rfl
@[simp] theorem eSFSet1_ok : eSFSet1 (.ok d τ) cls f o ρ = eSFSet2 (o ρ τ) cls f ρ d := id rfl
@[simp] theorem eSFSet1_ex {x : Ex} : eSFSet1 (.ex x τ) cls f o ρ = .ok (.xc x ρ) τ := id rfl
theorem eSFSet2_eq : eSFSet2 (.ok (.ptr k) (some t)) cls f ρ d = match t.st[k]? with
    | some (.obj C fs) => if C = cls ∧ fs.length < 1000 then .ok (.nx ρ) (some (putSt t k (.obj C (putD f d fs)))) else .no
    | _ => .no := id rfl
@[simp] theorem eSFSet2_at (h : t.st[k]? = some (.obj cls fs)) : eSFSet2 (.ok (.ptr k) (some t)) cls f ρ d = if fs.length < 1000 then .ok (.nx ρ) (some (putSt t k (.obj cls (putD f d fs)))) else .no := by
  rw [eSFSet2_eq, h]
  simp only [true_and]
def eSMeN2 (r : R (List PV)) (k : Nat) (F : Fn) (q : Nat) : R DD := r.bind fun as τ2 => if as.length + 1 = k then (F (.fr (.ptr q) :: as) τ2).nox else .no
def eSMeN1 (r : R DD) (k : Nat) (cls m : PySem.Str) (F : Fn) (ps : DPs) (ρ : PEnv) : R DD := r.bind fun x τ1 => match x, τ1 with
  | .ptr q, some t => match objAt t.st q with
    | some (C, fs) => if C = cls ∧ fs.lookup m = none then eSMeN2 (ps ρ τ1) k F q else .no
    | none => .no
  | _, _ => .no
@[simp] theorem ev_SMeN : dSMeN k cls mm F a r ρ τ = eSMeN1 (a ρ τ) k cls mm F r ρ := by
  unfold dSMeN eSMeN1
  congr 1
@[simp] theorem eSMeN1_at {q : Nat} (h : objAt t.st q = some (cls, fs)) : eSMeN1 (.ok (.ptr q) (some t)) k cls mm F r ρ = if fs.lookup mm = none then eSMeN2 (r ρ (some t)) k F q else .no := by
  show (match objAt t.st q with | some (C, fs) => _ | none => _) = _
  rw [h]
  simp only [true_and]
@[simp] theorem eSMeN1_ex {x : Ex} : eSMeN1 (.ex x τ) k cls mm F r ρ = .ex x τ := id rfl
@[simp] theorem eSMeN2_ok {q : Nat} : eSMeN2 (.ok as τ) k F q = if as.length + 1 = k then (F (.fr (.ptr q) :: as) τ).nox else .no := id rfl
def eMkS2 (r : R (List PV)) (k n m : Nat) (cls : PySem.Str) (F : Fn) (g : List PV → List PV → List PV) (as : List PV) : R DD := r.bind fun bs τ2 => if as.length = n ∧ bs.length = m then mkS k cls F (g as bs) τ2 else .no
def eMkS1 (r : R (List PV)) (k n m : Nat) (cls : PySem.Str) (F : Fn) (g : List PV → List PV → List PV) (b : DPs) (ρ : PEnv) : R DD := r.bind fun as τ1 => eMkS2 (b ρ τ1) k n m cls F g as
@[simp] theorem ev_MkS : dMkS k n m cls F g r s ρ τ = eMkS1 (r ρ τ) k n m cls F g s ρ := id rfl
@[simp] theorem eMkS1_ok : eMkS1 (.ok as τ) k n m cls F g s ρ = eMkS2 (s ρ τ) k n m cls F g as := id rfl
@[simp] theorem eMkS2_ok : eMkS2 (.ok bs τ) k n m cls F g as = if as.length = n ∧ bs.length = m then mkS k cls F (g as bs) τ else .no := id rfl
def eMkR (r : R DD) (k : Nat) : R DD := r.bind fun d τ3 => match d with
  | .non => .ok (.ptr k) τ3
  | _ => .no
theorem mkS_ok : mkS k cls F as (some t) = if as.length + 1 = k then eMkR (F (.fr (.ptr t.st.length) :: as) (some (pushSt t (.obj cls [])))) t.st.length else .no := by
  unfold mkS eMkR
  rfl
@[simp] theorem eMkR_ok : eMkR (.ok .non τ) k = .ok (.ptr k) τ := id rfl
@[simp] theorem eMkR_ex {x : Ex} : eMkR (.ex x τ) k = .ex x τ := id rfl
end
end Np
set_option Elab.async false
set_option linter.all false
set_option maxRecDepth 100000
set_option maxHeartbeats 4000000
namespace Np
open PySem PySem.Spec PyProof.Rows L2
section
variable {W : Wp} {Wx : L2.St → XK} {tp0 tp tp' : Option Addr} {G0 G G' : GH} {H0 H H' : Hp} {σ : L2.St} {ρ : PEnv} {τ τ' : TS'} {D : Ends} {te tk tx : TE} {ta : TA} {δe δk δx : DE} {δa : DA}
/-- x[a:b], x a list of the store -/
def dSSl (a : DE) (l h : DO) : DE := fun ρ τ => (a ρ τ).bind fun x τ1 => (l ρ τ1).bind fun lo τ2 => (h ρ τ2).bind fun hi τ3 => match x, τ3 with
  | .ptr k, some t => match lstAt t.st k with
    | some xs => .ok (.lst (cutL xs lo hi)) (some t)
    | none => .no
  | _, _ => .no
theorem dn_ssl {tl th : TO} {δl δh : DO} (ha : Dn W Wx te δe) (hl : DnO W Wx tl δl) (hh : DnO W Wx th δh) : Dn W Wx (tSl (rSlL W.K) te tl th) (dSSl δe δl δh) := fun tp G H σ ρ τ Q E P =>
  ha _ _ _ _ _ _ _ E (P.bind fun a τ1 x G1 H1 e1 E1 r1 P1 => hl _ _ _ _ _ _ _ E1 (P1.bind fun lo τ2 y G2 H2 e2 E2 r2 P2 => hh _ _ _ _ _ _ _ E2 (P2.bind fun hi τ3 z G3 H3 e3 E3 r3 P3 => by
    cases r2
    cases r3
    split at P3
    · rename_i k t
      split at P3
      · rename_i xs hk
        obtain ⟨p, vs, rfl, hv, rv⟩ := E3.lstS (r1.mono (e2.g.trans e3.g)) hk
        exact ⟨_, _, rfl, SqL.of hv, fun q n => P3 _ _ _ (Ext.new n E3.g) (E3.new n) (rp_newL (E3.g.free n) (rv.cut lo hi))⟩
      · exact P3.elim
    · exact P3.elim)))
/-- list(x), x a list of the store -/
def dSLstF (a : DA) : PEnv → TS' → R OC := fun ρ τ => (a ρ τ).bind fun x τ1 => match x, τ1 with
  | [.ptr k], some t => match lstAt t.st k with
    | some xs => .ok (.lst xs) (some t)
    | none => .no
  | _, _ => .no
theorem df_slst (ha : DnA W Wx ta δa) : DnF W Wx (tCB (rListK W.K) ta) (dSLstF δa) := fun tp G H σ ρ τ Q E P =>
  ha _ _ _ _ _ _ _ E (P.bind fun a τ1 x G1 H1 e1 E1 r1 P1 => by
    split at P1
    · rename_i k t
      cases r1 with | cons r rs =>
      cases rs
      split at P1
      · rename_i xs hk
        obtain ⟨p, vs, rfl, hv, rv⟩ := E1.lstS r hk
        exact ⟨_, _, rfl, .inl (SqL.of hv), fun p n => P1 p [p] G1 _ (Ext.newH n) (E1.newH n) ⟨rfl, _, upd_same, rv⟩ (fr1 n (E1.g.free n) (E1.noM n))⟩
      · exact P1.elim
    · exact P1.elim)
variable {a : DE} {l h : DO} {x d : DD} {t t1 t2 : Tau} {k : Nat} {xs : List DD} {lo hi : Option Int}
def eSSl (r : R DD) (l h : DO) (ρ : PEnv) : R DD := r.bind fun x τ1 => (l ρ τ1).bind fun lo τ2 => (h ρ τ2).bind fun hi τ3 => match x, τ3 with
  | .ptr k, some t => match lstAt t.st k with
    | some xs => .ok (.lst (cutL xs lo hi)) (some t)
    | none => .no
  | _, _ => .no
def eSSl2 (x : DD) (r : R (Option Int)) (h : DO) (ρ : PEnv) : R DD := r.bind fun lo τ2 => (h ρ τ2).bind fun hi τ3 => match x, τ3 with
  | .ptr k, some t => match lstAt t.st k with
    | some xs => .ok (.lst (cutL xs lo hi)) (some t)
    | none => .no
  | _, _ => .no
def eSSl3 (x : DD) (lo : Option Int) (r : R (Option Int)) : R DD := r.bind fun hi τ3 => match x, τ3 with
  | .ptr k, some t => match lstAt t.st k with
    | some xs => .ok (.lst (cutL xs lo hi)) (some t)
    | none => .no
  | _, _ => .no
@[simp] theorem ev_SSl : dSSl a l h ρ τ = eSSl (a ρ τ) l h ρ := id rfl
@[simp] theorem eSSl_ok : eSSl (.ok x τ) l h ρ = eSSl2 x (l ρ τ) h ρ := id rfl
@[simp] theorem eSSl2_ok : eSSl2 x (.ok lo τ) h ρ = eSSl3 x lo (h ρ τ) := id rfl
theorem eSSl3_at (e : lstAt t.st k = some xs) : eSSl3 (.ptr k) lo (.ok hi (some t)) = .ok (.lst (cutL xs lo hi)) (some t) := by
  show (match lstAt t.st k with | some xs => R.ok (DD.lst (cutL xs lo hi)) (some t) | none => R.no) = _
  rw [e]
def eSLstF (r : R (List DD)) : R OC := r.bind fun x τ1 => match x, τ1 with
  | [.ptr k], some t => match lstAt t.st k with
    | some xs => .ok (.lst xs) (some t)
    | none => .no
  | _, _ => .no
@[simp] theorem ev_SLstF {a : DA} : dSLstF a ρ τ = eSLstF (a ρ τ) := id rfl
theorem eSLstF_at (e : lstAt t.st k = some xs) : eSLstF (.ok [.ptr k] (some t)) = .ok (.lst xs) (some t) := by
  show (match lstAt t.st k with | some xs => R.ok (OC.lst xs) (some t) | none => R.no) = _
  rw [e]
end
section
variable {ρ : PEnv} {τ τ1 τ2 : TS'} {x k e : DE} {t t1 : Tau} {d : DD} {q j : Nat} {n : Int} {xs : List DD}
theorem stPut_ok (he : e ρ τ = .ok d τ1) (hx : x ρ τ1 = .ok (.ptr q) τ2) (hk : k ρ τ2 = .ok (.int n) (some t)) (hq : t.st[q]? = some (.lst xs)) (hj : ixN xs.length n = some j) :
    dStPut x k e ρ τ = .ok (.nx ρ) (some { t with st := t.st.set q (.lst (xs.set j d)) }) := by
  unfold dStPut stE
  rw [he]
  dsimp only
  rw [hx]
  dsimp only
  rw [hk]
  dsimp only
  rw [hq]
  dsimp only
  rw [hj]
theorem stApp_ok (hx : x ρ τ = .ok (.ptr q) (some t1)) (h1 : isLst t1 q = true) (he : e ρ (some t1) = .ok d (some t)) (hq : t.st[q]? = some (.lst xs)) (hl : xs.length < sizeLine) :
    dStApp x e ρ τ = .ok (.nx ρ) (some { t with st := t.st.set q (.lst (xs ++ [d])) }) := by
  unfold dStApp stE
  rw [hx]
  dsimp only
  rw [if_pos h1, he]
  dsimp only
  rw [hq]
  dsimp only
  rw [if_pos hl]
theorem isLst_at (hq : t.st[q]? = some (.lst xs)) : isLst t q = true := by
  unfold isLst
  rw [hq]
theorem lstAt_at (hq : t.st[q]? = some (.lst xs)) : lstAt t.st q = some xs := by
  unfold lstAt
  rw [hq]
theorem objAt_at {C : PySem.Str} {fs : List (PySem.Str × DD)} (hq : t.st[q]? = some (.obj C fs)) : objAt t.st q = some (C, fs) := by
  unfold objAt
  rw [hq]
end
section
variable {ρ : PEnv} {τ : TS'} {t : Tau} {xs : List DD} {δ : PEnv → TS' → R OC}
def eSto (r : R OC) : R DD := r.bind fun c τ1 => match τ1 with
  | some t => match ndOf c with
    | some nd => .ok (.ptr t.st.length) (some (pushSt t nd))
    | none => .no
  | none => .no
@[simp] theorem ev_Sto : dSto δ ρ τ = eSto (δ ρ τ) := id rfl
@[simp] theorem eSto_lst : eSto (.ok (.lst xs) (some t)) = .ok (.ptr t.st.length) (some (pushSt t (.lst xs))) := id rfl
end
end Np
set_option Elab.async false
set_option linter.all false
set_option maxRecDepth 100000
set_option maxHeartbeats 4000000
namespace Np
open PySem PySem.Spec PyProof.Rows L2
end Np
set_option Elab.async false
set_option linter.all false
set_option maxRecDepth 100000
set_option maxHeartbeats 4000000
namespace Np
open PySem PySem.Spec PyProof.Rows L2
end Np
set_option Elab.async false
set_option linter.all false
set_option maxRecDepth 100000
set_option maxHeartbeats 4000000
namespace Np
open PySem PySem.Spec PyProof.Rows L2 LamX
section
variable {X : Cx} {p : Str} {i k : Nat} {params : Arguments} {body : Expr} {scope : Scope} {tb : TE}
theorem pe_minKS {P c : Addr} {T : List (Addr × Str)} {e : Expr} {x : Str} {ta : TA} {p0 pos lpos kpos : Pos} (L : LamS1 p X.env.scope scope) (nd : X.N.Nodup) (hi : X.N[i]? = some p)
    (hb : ∀ (cl : List (Str × Addr)) (q : Str) (pm cd ctv : Value) (u : Value), bindArgs (PySem.W.kla_fn "<lambda>" q params body scope cl pm cd ctv) ⟨[u], []⟩ = pure [(p, u)]) (hr : Room (k + 3) X.A)
    (hbody : ∀ (A : Around) (outer : List Env) (s : Shared) (H : Hp) (f c' : Addr), Room k (A.deeper (lamEnv X scope s.heap.objs.size f c')) → A.guards = X.A.guards → PE (lamCx X A outer s H E0 scope f c') body tb)
    (B : TabB X.base X.mg c P) (hc : X.env.code = .ref c) (hm : (P, X.env.qual ++ "<lambda>") ∈ T) (hu : ∀ q ∈ T, q.1 = P → q.2 = X.env.qual ++ "<lambda>") (hdef : defaultsOf params X.env = ([], []))
    (hg : Gl X x) (hx : X.mg x = none) (hv : bootBuiltins x = some (.builtin "min")) (ha : PA X [e] ta) (hn : x ≠ "__name__" := by decide) (hdb : (x == ("__debug__" : Str)) = false := by decide) (hcm : X.calm = true := by rfl)
    (h1 : backTo pos (starEach [e] X.env) = (false, eval e X.env) :: backTo pos (starEach [] X.env) := by rfl) (h2 : (backTo pos (starEach [e] X.env)).any (·.1) = false := by rfl)
    (h3 : (backToKw pos (keywordEach [⟨some "key", .Lambda params body scope lpos, kpos⟩] X.env)).all (·.1.isSome) = true := by rfl) (h4 : (backToKw pos (keywordEach [⟨some "key", .Lambda params body scope lpos, kpos⟩] X.env)).any (·.1.isNone) = false := by rfl) (h5 : (backToKw pos (keywordEach [⟨some "key", .Lambda params body scope lpos, kpos⟩] X.env)).filterMap (·.1) = [Str.ofString "key"] := by rfl) :
    PE X (.Call (.Name x p0) [e] [⟨some "key", .Lambda params body scope lpos, kpos⟩] pos) (tKS (rBestS (fun a b => PySem.W.dataLt a b) X.K (fun f c' => LamO f c' (X.env.qual ++ "<lambda>") params body scope (cloFrom X.env.cells scope.names [])) (X.env.qual ++ "<lambda>") i tb) ta (tCons (tLamV T P (fun f c' => LamO f c' (X.env.qual ++ "<lambda>") params body scope (cloFrom X.env.cells scope.names [])) (X.env.qual ++ "<lambda>")) tNil)) :=
  pe_keyS (cr_minS hcm L nd hi hb hr hbody) L.fr B hc hm hu hdef hg hx hv ha hn hdb h1 h2 h3 h4 h5
end
end Np
set_option Elab.async false
set_option linter.all false
set_option maxRecDepth 100000
set_option maxHeartbeats 4000000
namespace Np
open PySem PySem.Spec PyProof.Rows L2
section
variable {W : Wp} {Wx : L2.St → XK} {tp : Option Addr} {G G' : GH} {H H' : Hp} {σ : L2.St} {ρ : PEnv} {τ : TS'}
theorem RpA.mapD {f : DD → DD} : ∀ {vs : List V} {ds : List DD}, (∀ v d, Rp W.K W.cm G v d → Rp W.K W.cm G' v (f d)) → RpA W.K W.cm G vs ds → RpA W.K W.cm G' vs (ds.map f)
  | _, _, _, .nil => .nil
  | _, _, h, .cons a r => .cons (h _ _ a) (RpA.mapD h r)
variable {te tx : TE} {δe δx : DE} {tc : TT} {δc : DT} {tr : TA} {δr : DPs}
def dFldA (cls f : Str) (a : DE) : DE := fun ρ τ => (a ρ τ).bind fun x τ1 => match x with
  | .obj C fs => if C = cls then R.of τ1 (fs.lookup f) else .no
  | .ptr k => match τ1 with
    | some t => (match objAt t.st k with
      | some (C, fs) => if C = cls then R.of τ1 (fs.lookup f) else .no
      | none => .no)
    | none => .no
  | _ => .no
def dMeNA (k : Nat) (cls m : Str) (F : Fn) (a : DE) (r : DPs) : DE := fun ρ τ => (a ρ τ).bind fun x τ1 => match x with
  | .obj C fs => if C = cls ∧ fs.lookup m = none then (r ρ τ1).bind fun as τ2 => if as.length + 1 = k then (F (.fr (.obj C fs) :: as) τ2).nox else .no
    else .no
  | .ptr q => match τ1 with
    | some t => (match objAt t.st q with
      | some (C, fs) => if C = cls ∧ fs.lookup m = none then (r ρ τ1).bind fun as τ2 => if as.length + 1 = k then (F (.fr (.ptr q) :: as) τ2).nox else .no
        else .no
      | none => .no)
    | none => .no
  | _ => .no
end
section
variable {ρ : PEnv} {τ τ1 τ2 : TS'} {t : Tau} {e a : DE} {c : DT} {r : DPs} {i k q : Nat} {xs : List DD} {d y : DD} {b : Bool} {C cls f mm : Str} {fs : List (Str × DD)} {F : Fn} {as : List PV}
def eFldA (r : R DD) (cls f : Str) : R DD := r.bind fun x τ1 => match x with
  | .obj C fs => if C = cls then R.of τ1 (fs.lookup f) else .no
  | .ptr k => match τ1 with
    | some t => (match objAt t.st k with
      | some (C, fs) => if C = cls then R.of τ1 (fs.lookup f) else .no
      | none => .no)
    | none => .no
  | _ => .no
@[simp] theorem ev_FldA : dFldA cls f a ρ τ = eFldA (a ρ τ) cls f := id rfl
@[simp] theorem eFldA_obj : eFldA (.ok (.obj cls fs) τ) cls f = R.of τ (fs.lookup f) := if_pos rfl
@[simp] theorem eFldA_at (h : objAt t.st k = some (cls, fs)) : eFldA (.ok (.ptr k) (some t)) cls f = R.of (some t) (fs.lookup f) := by
  show (match objAt t.st k with | some (C, fs) => _ | none => _) = _
  rw [h]
  exact if_pos rfl
def eMeNA2 (r : R (List PV)) (k : Nat) (F : Fn) (x : DD) : R DD := r.bind fun as τ2 => if as.length + 1 = k then (F (.fr x :: as) τ2).nox else .no
def eMeNA (r : R DD) (k : Nat) (cls m : Str) (F : Fn) (ps : DPs) (ρ : PEnv) : R DD := r.bind fun x τ1 => match x with
  | .obj C fs => if C = cls ∧ fs.lookup m = none then eMeNA2 (ps ρ τ1) k F (.obj C fs) else .no
  | .ptr q => match τ1 with
    | some t => (match objAt t.st q with
      | some (C, fs) => if C = cls ∧ fs.lookup m = none then eMeNA2 (ps ρ τ1) k F (.ptr q) else .no
      | none => .no)
    | none => .no
  | _ => .no
@[simp] theorem ev_MeNA : dMeNA k cls mm F a r ρ τ = eMeNA (a ρ τ) k cls mm F r ρ := id rfl
@[simp] theorem eMeNA_obj : eMeNA (.ok (.obj cls fs) τ) k cls mm F r ρ = if fs.lookup mm = none then eMeNA2 (r ρ τ) k F (.obj cls fs) else .no := by
  show (if cls = cls ∧ fs.lookup mm = none then _ else _) = _
  simp only [true_and]
@[simp] theorem eMeNA_at (h : objAt t.st q = some (cls, fs)) : eMeNA (.ok (.ptr q) (some t)) k cls mm F r ρ = if fs.lookup mm = none then eMeNA2 (r ρ (some t)) k F (.ptr q) else .no := by
  show (match objAt t.st q with | some (C, fs) => _ | none => _) = _
  rw [h]
  simp only [true_and]
@[simp] theorem eMeNA2_ok {x : DD} : eMeNA2 (.ok as τ) k F x = if as.length + 1 = k then (F (.fr x :: as) τ).nox else .no := id rfl
end
end Np
set_option Elab.async false
set_option linter.all false
set_option maxRecDepth 100000
set_option maxHeartbeats 4000000
namespace Np
open PySem PySem.Spec PyProof.Rows L2
def vw1 (st : List Nd) : DD → DD
  | .ptr k => match st[k]? with
    | some (.fz d) => d
    | some nd => (ddOf nd).getD (.ptr k)
    | none => .ptr k
  | d => d
def vw (st : List Nd) : DD → DD
  | .tup ds => .tup (ds.map (vw1 st))
  | d => vw1 st d
section
variable {W : Wp} {Wx : L2.St → XK} {tp : Option Addr} {G G' : GH} {H H' : Hp} {σ : L2.St} {ρ : PEnv} {τ : TS'}
theorem EnvV.view {t : Tau} (E : EnvV W tp G H σ ρ (some t)) : ∃ G1, GS G G1 ∧ SB W G1 H ∧ ∀ v d, Rp W.K W.cm G v d → Rp W.K W.cm G1 v (vw t.st d) := by
  cases tp with
  | none => exact E.t.elim
  | some a =>
    have t0 : TapeR W G H a t := E.t
    let F : List Addr := G.ads.filter fun q => decide (G.hp q = none)
    have hF : ∀ q ∈ F, G q = none ∧ q ∈ G.ads := fun q hq => by
      have := List.mem_filter.mp hq
      exact ⟨of_decide_eq_true this.2, this.1⟩
    have E2 := E.hide.freezeF (F := F) (fun q hq => ⟨(hF q hq).1, NoM.none⟩) (fun q hq => t0.s.nt q (hF q hq).2) (fun q hq j c b F1 h1 h2 w hp => by
      obtain ⟨F2, w2, gn⟩ := E.own (hid_ow h1) h2
      cases w2.uniq w
      exact ((gn q hp).2 a rfl).2 (hF q hq).2)
    have s2 : GS G (upF G H F) := upF_same fun q hq => (hF q hq).1
    have ins : ∀ p o, p ∈ G.ads → H p = some o → (upF G H F).hp p = some o := fun p o hp ho => by
      by_cases z : p ∈ F
      · rw [upF_in p z]; exact ho
      · rw [upF_out z]
        cases hg : G.hp p with
        | none => exact absurd (List.mem_filter.mpr ⟨hp, decide_eq_true hg⟩) z
        | some o' => rw [E.g.s _ _ hg] at ho; exact ho
    have v1 : ∀ v d, Rp W.K W.cm G v d → Rp W.K W.cm (upF G H F) v (vw1 t.st d) := fun v d r => by
      cases d <;> first | exact r.mono s2 | skip
      rename_i k
      unfold vw1
      dsimp only
      split
      · rename_i d hk
        obtain ⟨_, p, _, rfl, _, _, _, e5⟩ := E.sto r hk
        exact e5.mono s2
      · rename_i nd _ hk
        cases nd with
        | lst xs =>
          obtain ⟨_, p, _, rfl, pm, _, vs, hv, rv⟩ := E.sto r hk
          exact .lst (ins p _ pm hv) (rv.mono s2)
        | dK xs =>
          obtain ⟨_, p, _, rfl, pm, _, vs, hv, rv⟩ := E.sto r hk
          exact .dic (ins p _ pm hv) (rv.mono s2)
        | obj C fs =>
          obtain ⟨_, p, _, rfl, pm, _, dx, vs, hv, rv⟩ := E.sto r hk
          exact .obj (ins p _ pm hv) (rv.mono s2)
        | gone => exact r.mono s2
        | fz d => exact r.mono s2
      · exact r.mono s2
    refine ⟨_, s2, E2.g, fun v d r => ?_⟩
    cases d with
    | tup ds =>
      cases r with | tup h ra => exact .tup (s2.s _ _ h) (RpA.mapD v1 ra)
    | _ => exact v1 v _ r
/-- f(x, ..), what the arguments are, looked at: a flat answer -/
def dCallV (g : List DD → Option DD) (a : DA) : DE := fun ρ τ => (a ρ τ).bind fun xs τ1 => match τ1 with
  | some t => match g (xs.map (vw t.st)) with
    | some d => if flatD d = true then .ok d (some t) else .no
    | none => .no
  | none => .no
theorem dn_cbV {r : List V → Hp → VK → Prop} {g : List DD → Option DD} {tr : TA} {δr : DA} (hc : CallD W r g) (hr : DnA W Wx tr δr) : Dn W Wx (tCB r tr) (dCallV g δr) := fun tp G H σ ρ τ Q E P =>
  hr _ _ _ _ _ _ _ E (P.bind fun a τ1 x G1 H1 e1 E1 r1 P1 => by
    split at P1
    · rename_i t
      split at P1
      · rename_i d hd
        split at P1
        · rename_i hf
          obtain ⟨G2, s2, b2, v2⟩ := E1.view
          refine hc G2 H1 x _ d Q b2 (RpA.mapD v2 r1) hd fun v G3 H3 e3 g3 r3 => ?_
          obtain ⟨a1, a2⟩ := E1.after s2 e3 g3
          exact P1 v G1 H3 a1 a2 (flatD_any hf r3 G1)
        · exact P1.elim
      · exact P1.elim
    · exact P1.elim)
/-- a op b, what they are, looked at: a flat answer -/
def dOpV (g : DD → DD → Option DD) (a b : DE) : DE := fun ρ τ => (a ρ τ).bind fun x τ1 => (b ρ τ1).bind fun y τ2 => match τ2 with
  | some t => match g (vw t.st x) (vw t.st y) with
    | some d => if flatD d = true then .ok d (some t) else .no
    | none => .no
  | none => .no
theorem dn_opV {r : R2} {g : DD → DD → Option DD} {ta tb : TE} {δa δb : DE} (ho : OpD W r g) (ha : Dn W Wx ta δa) (hb : Dn W Wx tb δb) : Dn W Wx (tOp r ta tb) (dOpV g δa δb) := fun tp G H σ ρ τ Q E P =>
  ha _ _ _ _ _ _ _ E (P.bind fun a τ1 x G1 H1 e1 E1 r1 P1 => hb _ _ _ _ _ _ _ E1 (P1.bind fun b τ2 y G2 H2 e2 E2 r2 P2 => by
    split at P2
    · rename_i t
      split at P2
      · rename_i d hd
        split at P2
        · rename_i hf
          obtain ⟨G3, s3, b3, v3⟩ := E2.view
          refine ho G3 H2 x y _ _ d Q b3 (v3 _ _ (r1.mono e2.g)) (v3 _ _ r2) hd fun v G4 H4 e4 g4 r4 => ?_
          obtain ⟨a1, a2⟩ := E2.after s3 e4 g4
          exact P2 v G2 H4 a1 a2 (flatD_any hf r4 G2)
        · exact P2.elim
      · exact P2.elim
    · exact P2.elim))
/-- x.clear(), x a list of the store -/
def dStClr (x : DE) : DS := fun ρ τ => stE (x ρ τ) ρ fun u τ1 => match u, τ1 with
  | .ptr q, some t => match t.st[q]? with
    | some (.lst _) => .ok (.nx ρ) (some { t with st := t.st.set q (.lst []) })
    | _ => .no
  | _, _ => .no
theorem ds_stClr {tx : TE} {δx : DE} (hW : StW W) (hx : Dn W Wx tx δx) : DnS W Wx (tDrop (tBM0 W.K "list" rClear tx)) (dStClr δx) := fun tp0 G0 H0 tp G H σ ρ τ D E P =>
  hx _ _ _ _ _ _ _ E.v (P.bind E fun u τ1 w G1 H1 E1 e1 r1 P1 => by
    split at P1
    · rename_i q t
      split at P1
      · rename_i xs hq
        obtain ⟨a, p, rfl, rfl, hm, hp, vs, hv, rv⟩ := E1.v.sto r1 hq
        exact ⟨.inl ⟨rfl, vs, SqL.of hv⟩, p, vs, rfl, rfl, hv, P1 (some a) _ _ σ (GS.refl _) (EnvS.putM hW E1 hp hq rfl ⟨_, upd_same, .nil⟩)⟩
      · exact P1.elim
    · exact P1.elim)
end
section
variable {ρ : PEnv} {τ τ1 τ2 : TS'} {a b x : DE} {δr : DA} {t : Tau} {d u v : DD} {xs ys : List DD} {g : List DD → Option DD} {o : DD → DD → Option DD} {q : Nat}
theorem callV_ok (ha : δr ρ τ = .ok xs (some t)) (hg : g (xs.map (vw t.st)) = some d) (hf : flatD d = true) : dCallV g δr ρ τ = .ok d (some t) := by
  unfold dCallV
  rw [ha, R.bind_ok]
  dsimp only
  rw [hg]
  exact if_pos hf
theorem opV_ok (ha : a ρ τ = .ok u τ1) (hb : b ρ τ1 = .ok v (some t)) (hg : o (vw t.st u) (vw t.st v) = some d) (hf : flatD d = true) : dOpV o a b ρ τ = .ok d (some t) := by
  unfold dOpV
  rw [ha, R.bind_ok, hb, R.bind_ok]
  dsimp only
  rw [hg]
  exact if_pos hf
theorem stClr_ok (hx : x ρ τ = .ok (.ptr q) (some t)) (hq : t.st[q]? = some (.lst xs)) : dStClr x ρ τ = .ok (.nx ρ) (some { t with st := t.st.set q (.lst []) }) := by
  unfold dStClr stE
  rw [hx]
  dsimp only
  rw [hq]
theorem vw1_at (hq : t.st[q]? = some (.lst xs)) : vw1 t.st (.ptr q) = .lst xs := by
  unfold vw1
  dsimp only
  rw [hq]
  rfl
end
end Np
set_option Elab.async false
set_option linter.all false
set_option maxRecDepth 100000
set_option maxHeartbeats 4000000
namespace PySem.W
open PySem PySem.Spec PySem.Calls PyProof.Rows
theorem min_list_ixN {prog : Program} {w : World} {A : Around} {E : Value → Shared → Prop} {s : Shared} {l : Addr} {vs : Array Value} {x : PyData} {xs : List PyData} {as : List Addr} {Q : Value → Shared → Prop} (hh : A.handled = none) (hl : s.heap.IsList l vs) (hr : ReadsAll s.heap vs.toList (x :: xs) as) (ha : AlikeAll (x :: xs)) (hu : A.units + 1 + PyData.depthAll (x :: xs) < cLine)
    (h : ∀ v h' tk, vs[argBest (fun i j => dataLt ((x :: xs).getD i .none) ((x :: xs).getD j .none)) xs.length]? = some v → (∀ b o, s.heap.get? b = some o → h'.get? b = some o) → Q v { s with heap := h', toks := tk }) :
    wpAny (model prog w) A (call (.builtin "min") [.ref l]) Q E s := by
  have hn : vs.size = xs.length + 1 := readsAll_len hr
  refine call_min_walkH (iter_listW (A := A.in1) hh hl fun s₂ e W st hfp hw hk => ?_)
  refine ⟨_, _, _, _, _, _, _, s.heap, _, rfl, W, st, hfp, by omega, hw, hk, cmpIn_lt (A := A.in1) hr ha (by show A.units + 1 + _ < _; exact hu), fun v s' hP m => ?_⟩
  obtain ⟨h', tk, rfl, hk'⟩ := moved_old e rfl m
  have e1 : vs.size - 1 = xs.length := by omega
  rw [e1] at hP
  exact h v h' tk hP hk'
end PySem.W
namespace Np
open PySem PySem.Spec PyProof.Rows L2
def rMinLD (K : PySem.W.Frag) : List V → Hp → VK → Prop := fun xs H Q => ∃ p ws x ps, xs = [.ref p] ∧ SqL K H p ws ∧ DpAll K H ws (x :: ps) ∧ PySem.W.AlikeAll (x :: ps) ∧ PyData.depthAll (x :: ps) ≤ 64 ∧ ∀ w, ws[bestD (x :: ps)]? = some w → Q w H
theorem cr_minLD {X : Cx} {k : Nat} (K : PySem.W.Frag) (hc : X.calm = true) (hr : Room k X.A) (h : X.K = K := by rfl) : CallR X (.builtin "min") (rMinLD K) := by
  subst h
  intro pins s σ H xs us Q I r h
  obtain ⟨a, ws, x, ps, rfl, hl, hd, hal, hdp, hq⟩ := h
  obtain rfl := Vals.ref1 r
  obtain ⟨its, rv, pl, _⟩ := I.list hl
  obtain ⟨as, ra⟩ := Dp.readsAll I _ _ _ hd rv
  refine PySem.W.min_list_ixN (I.ok.hd hc) pl.isList (by simpa using ra) hal (by have := hr.un; show X.A.units + 1 + _ < _; omega) fun v h' tk hi hk => ?_
  have hb : bestD (x :: ps) = argBest (fun i j => PySem.W.dataLt ((x :: ps).getD i .none) ((x :: ps).getD j .none)) ps.length := rfl
  rw [← hb] at hi
  have hi : its[bestD (x :: ps)]? = some v := by simpa using hi
  have hlt : bestD (x :: ps) < ws.length := by rw [rv.length]; exact (List.getElem?_eq_some_iff.mp hi).1
  obtain ⟨u, hu, ru⟩ := rv.get (List.getElem?_eq_getElem hlt)
  rw [hi] at hu
  cases hu
  exact ⟨_, H, I.kept hk, ru, hq _ (List.getElem?_eq_getElem hlt)⟩
def pysD : List DD → Option (List PyData)
  | [] => some []
  | d :: ds => match toPy d, pysD ds with
    | some p, some ps => some (p :: ps)
    | _, _ => none
open Classical in
noncomputable def gMinLD : DD → Option DD
  | .lst ds => match pysD ds with
    | some (p :: ps) => if keysOk (p :: ps) then ds[bestD (p :: ps)]? else none
    | _ => none
  | _ => none
theorem depthAll_le : ∀ {ps : List PyData}, (∀ p ∈ ps, p.depth ≤ 64) → PyData.depthAll ps ≤ 64
  | [], _ => by simp [PyData.depthAll]
  | p :: ps, h => by
    have h1 := h p List.mem_cons_self
    have h2 := depthAll_le fun q hq => h q (List.mem_cons_of_mem p hq)
    simp only [PyData.depthAll]
    omega
section
variable {W : Wp}
theorem RpA.dpA {H : GH} : ∀ {vs : List V} {ds : List DD} {ps : List PyData}, RpA W.K W.cm H vs ds → pysD ds = some ps → DpAll W.K H.hp vs ps
  | [], [], ps, .nil, h => by cases h; exact .nil
  | v :: vs, d :: ds, ps, .cons r rs, h => by
    unfold pysD at h
    split at h
    · rename_i hp hk
      cases h
      exact .cons (r.dp hp) (RpA.dpA rs hk)
    · cases h
theorem cd_minLD : CallD W (rMinLD W.K) (c1 gMinLD) := by
  intro G H x a c Q s ra e k
  replace e := c1_eq e
  obtain ⟨d, rfl, e⟩ := e
  cases ra with | cons r rs =>
  cases rs
  unfold gMinLD at e
  split at e
  · rename_i ds
    split at e
    · rename_i p ps hk
      split at e
      · rename_i hok
        cases r with | lst h r =>
        rename_i a us
        refine ⟨_, us, p, ps, rfl, SqL.of (s _ _ h), ?_, ⟨fun x hx y hy => (hok x hx).1 y hy, fun x hx => (hok x hx).2.2⟩, depthAll_le fun x hx => (hok x hx).2.1, fun w hw => ?_⟩
        · exact RpA.dpA (r.mono s.gs) hk
        · obtain ⟨d2, hd2, r2⟩ := RpA.get' r hw
          rw [e] at hd2
          cases hd2
          exact k w G H ext_n s r2
      · cases e
    · cases e
  · cases e
end
theorem pysD_map {α : Type} {g : α → DD} {p : α → PyData} : ∀ {xs : List α}, (∀ x ∈ xs, toPy (g x) = some (p x)) → pysD (xs.map g) = some (xs.map p)
  | [], _ => rfl
  | x :: xs, h => by
    rw [List.map_cons, pysD, h x List.mem_cons_self, pysD_map fun y hy => h y (List.mem_cons_of_mem _ hy)]
    rfl
theorem gMinLD_eq {α : Type} {g : α → DD} {p : α → PyData} {xs : List α} {d : DD} (h : ∀ x ∈ xs, toPy (g x) = some (p x)) (hk : keysOk (xs.map p)) (hd : (xs.map g)[bestD (xs.map p)]? = some d) : gMinLD (.lst (xs.map g)) = some d := by
  unfold gMinLD
  dsimp only
  rw [pysD_map h]
  cases xs with
  | nil => simp at hd
  | cons x xs =>
    simp only [List.map_cons] at hk hd ⊢
    rw [if_pos hk, hd]
end Np
set_option Elab.async false
set_option linter.all false
set_option maxRecDepth 100000
set_option maxHeartbeats 4000000
namespace Np
open PySem PySem.Spec PyProof.Rows L2
section
variable {W : Wp} {Wx : L2.St → XK} {tp0 tp : Option Addr} {G0 G : GH} {H0 H : Hp} {σ : L2.St} {ρ : PEnv} {τ : TS'} {D : Ends}
theorem Held.after {i : Nat} {p q : Addr} {c c' : OC} {F F' : List Addr} (h1 : Held W tp G H σ ρ p c F) (h2 : Held W tp G H σ ρ q c' F') (ne : ∀ r ∈ F', r ∉ F) : Held W tp G H (σ.set i (some (.ref p))) (ρ.set i (some (.ow c))) q c' F' := by
  refine ⟨h2.w, h2.fr, fun r hr k d b F1 a1 a2 w z => ?_⟩
  rcases set_own a1 with ⟨rfl, e⟩ | ⟨nk, a1⟩
  · cases e
    rcases set_own a2 with ⟨_, e⟩ | ⟨nk, _⟩
    · cases e
      rw [w.uniq h1.w] at z
      exact ne r hr z
    · exact nk rfl
  · rw [List.getElem?_set_ne (fun z => nk z.symm)] at a2
    exact h2.no r hr k d b F1 a1 a2 w z
def dPar4O (i j l m : Nat) (a b c d : PEnv → TS' → R OC) : DS := fun ρ τ => stE (a ρ τ) ρ fun x τ1 => stE (b ρ τ1) ρ fun y τ2 => stE (c ρ τ2) ρ fun z τ3 => stE (d ρ τ3) ρ fun u τ4 => .ok (.nx ((((ρ.set i (some (.ow x))).set j (some (.ow y))).set l (some (.ow z))).set m (some (.ow u)))) τ4
theorem ds_tup4O {i j l m : Nat} {ta tb tc td : TE} {φ ψ χ ω : PEnv → TS' → R OC} (ha : DnF W Wx ta φ) (hb : DnF W Wx tb ψ) (hc : DnF W Wx tc χ) (hd : DnF W Wx td ω) :
    DnS W Wx (tAsg (tTup (tCons ta (tCons tb (tCons tc (tCons td tNil))))) (gTup W.K 4 (gCons (gName i) (gCons (gName j) (gCons (gName l) (gCons (gName m) gNil)))))) (dPar4O i j l m φ ψ χ ω) := fun tp0 G0 H0 tp G H σ ρ τ D E P =>
  dnF_run ha E P fun c1 τ1 p1 F1 G1 H1 E1 e1 h1 n1 P1 => dnF_run hb E1 P1 fun c2 τ2 p2 F2 G2 H2 E2 e2 h2 n2 P2 => dnF_run hc E2 P2 fun c3 τ3 p3 F3 G3 H3 E3 e3 h3 n3 P3 => dnF_run hd E3 P3 fun c4 τ4 p4 F4 G4 H4 E4 e4 h4 n4 P4 => ⟨(by show 4 ≤ sizeLine; decide), fun q nq => by
    have x5 := Ext.newH (tp := tp) (G := G4) (o := .tup [.ref p1, .ref p2, .ref p3, .ref p4]) nq
    have E5 : EnvS W tp0 G0 H0 tp G4 (upd H4 q (.tup [.ref p1, .ref p2, .ref p3, .ref p4])) σ ρ τ4 := E4.step x5 (E4.v.newH nq)
    have a1 := h1.ext E1.v e2
    have b1 := a1.ext E2.v e3
    have b2 := h2.ext E2.v e3
    have k1 := (b1.ext E3.v e4).ext E4.v x5
    have k2 := (b2.ext E3.v e4).ext E4.v x5
    have k3 := (h3.ext E3.v e4).ext E4.v x5
    have k4 := h4.ext E4.v x5
    have d21 : ∀ r ∈ F2, r ∉ F1 := fun r hr z => h1.w.at r z (n2 r hr).1
    have d31 : ∀ r ∈ F3, r ∉ F1 := fun r hr z => a1.w.at r z (n3 r hr).1
    have d32 : ∀ r ∈ F3, r ∉ F2 := fun r hr z => h2.w.at r z (n3 r hr).1
    have d41 : ∀ r ∈ F4, r ∉ F1 := fun r hr z => b1.w.at r z (n4 r hr).1
    have d42 : ∀ r ∈ F4, r ∉ F2 := fun r hr z => b2.w.at r z (n4 r hr).1
    have d43 : ∀ r ∈ F4, r ∉ F3 := fun r hr z => h3.w.at r z (n4 r hr).1
    have m2 := Held.after (i := i) k1 k2 d21
    have m3 := Held.after (i := i) k1 k3 d31
    have m4 := Held.after (i := i) k1 k4 d41
    have o3 := Held.after (i := j) m2 m3 d32
    have o4 := Held.after (i := j) m2 m4 d42
    have r4 := Held.after (i := l) o3 o4 d43
    refine ⟨q, _, rfl, SqT.of upd_same, rfl, ?_⟩
    exact ⟨_, _, rfl, _, _, rfl, _, _, rfl, _, _, rfl, rfl, P4 tp G4 _ _ (GS.refl _) ((((E5.setH (i := i) k1 fun q hq => (n1 q hq).2).setH (i := j) m2 fun q hq => (n2 q hq).2).setH (i := l) o3 fun q hq => (n3 q hq).2).setH (i := m) r4 fun q hq => (n4 q hq).2)⟩⟩
end
section
variable {ρ : PEnv} {τ : TS'} {a b c d : PEnv → TS' → R OC} {i j l m : Nat} {x y z u : OC}
def ePar4_1 (r : R OC) (i j l m : Nat) (b c d : PEnv → TS' → R OC) (ρ : PEnv) : R Ct := stE r ρ fun x τ1 => stE (b ρ τ1) ρ fun y τ2 => stE (c ρ τ2) ρ fun z τ3 => stE (d ρ τ3) ρ fun u τ4 => .ok (.nx ((((ρ.set i (some (.ow x))).set j (some (.ow y))).set l (some (.ow z))).set m (some (.ow u)))) τ4
def ePar4_2 (r : R OC) (i j l m : Nat) (c d : PEnv → TS' → R OC) (ρ : PEnv) (x : OC) : R Ct := stE r ρ fun y τ2 => stE (c ρ τ2) ρ fun z τ3 => stE (d ρ τ3) ρ fun u τ4 => .ok (.nx ((((ρ.set i (some (.ow x))).set j (some (.ow y))).set l (some (.ow z))).set m (some (.ow u)))) τ4
def ePar4_3 (r : R OC) (i j l m : Nat) (d : PEnv → TS' → R OC) (ρ : PEnv) (x y : OC) : R Ct := stE r ρ fun z τ3 => stE (d ρ τ3) ρ fun u τ4 => .ok (.nx ((((ρ.set i (some (.ow x))).set j (some (.ow y))).set l (some (.ow z))).set m (some (.ow u)))) τ4
def ePar4_4 (r : R OC) (i j l m : Nat) (ρ : PEnv) (x y z : OC) : R Ct := stE r ρ fun u τ4 => .ok (.nx ((((ρ.set i (some (.ow x))).set j (some (.ow y))).set l (some (.ow z))).set m (some (.ow u)))) τ4
@[simp] theorem ev_Par4O : dPar4O i j l m a b c d ρ τ = ePar4_1 (a ρ τ) i j l m b c d ρ := id rfl
@[simp] theorem ePar4_1_ok : ePar4_1 (.ok x τ) i j l m b c d ρ = ePar4_2 (b ρ τ) i j l m c d ρ x := id rfl
@[simp] theorem ePar4_2_ok : ePar4_2 (.ok y τ) i j l m c d ρ x = ePar4_3 (c ρ τ) i j l m d ρ x y := id rfl
@[simp] theorem ePar4_3_ok : ePar4_3 (.ok z τ) i j l m d ρ x y = ePar4_4 (d ρ τ) i j l m ρ x y z := id rfl
@[simp] theorem ePar4_4_ok : ePar4_4 (.ok u τ) i j l m ρ x y z = .ok (.nx ((((ρ.set i (some (.ow x))).set j (some (.ow y))).set l (some (.ow z))).set m (some (.ow u)))) τ := id rfl
end
end Np
set_option Elab.async false
set_option linter.all false
set_option maxRecDepth 100000
namespace Np
open PySem PySem.Spec PyProof.Rows L2
section
variable {ρ : PEnv} {τ τ' : TS'} {F : Fn} {a : DA}
noncomputable def eMinK (F : Fn) (r : R (List DD)) : R DD := r.bind fun xs τ1 => match xs with
  | [.lst ds] => R.of τ1 (gMinK F ds)
  | _ => .no
@[simp] theorem ev_MinK : dMinK F a ρ τ = eMinK F (a ρ τ) := id rfl
@[simp] theorem eMinK_ok {ds : List DD} : eMinK F (.ok [.lst ds] τ) = R.of τ (gMinK F ds) := id rfl
def zpA? : List DD → Option (List DD)
  | [.lst ds, .lst es] => some (zipD ds es)
  | [.tup ds, .tup es] => some (zipD ds es)
  | _ => none
@[simp] theorem zpA?_l {ds es : List DD} : zpA? [.lst ds, .lst es] = some (zipD ds es) := id rfl
@[simp] theorem zpA?_t {ds es : List DD} : zpA? [.tup ds, .tup es] = some (zipD ds es) := id rfl
@[simp] theorem ev_IZipA : dIZipA a ρ τ = eUn (a ρ τ) zpA? := by
  unfold dIZipA eUn
  congr 1
  funext x τ1
  unfold zpA?
  rcases x with _ | ⟨d, _ | ⟨e, _ | ⟨f, x⟩⟩⟩
  · rfl
  · cases d <;> rfl
  · cases d <;> cases e <;> first | rfl | (dsimp only [R.of]; split <;> rfl)
  · cases d <;> cases e <;> rfl
theorem argBest_le (bt : Nat → Nat → Bool) : ∀ k, argBest bt k ≤ k
  | 0 => Nat.le_refl _
  | k + 1 => by
    unfold argBest
    split
    · exact Nat.le_refl _
    · exact Nat.le_succ_of_le (argBest_le bt k)
end
end Np
set_option Elab.async false
set_option linter.all false
set_option maxRecDepth 100000
namespace Np
open PySem PySem.Spec PyProof.Rows L2
section
variable {ρ : PEnv} {τ τ' : TS'} {a : DA} {δ δh : DS} {exm : PySem.Str → Option Bool} {i : Nat} {x : Ex} {d : DD}
def eTh (o : Option Bool) (x : Ex) (ρ1 : PEnv) (τ1 : TS') (i : Nat) (δh : DS) : R Ct := match o with
  | some true => clrI i (δh (ρ1.set i (some (.fr (.exc x.cls x.fs)))) τ1)
  | some false => .ok (.xc x ρ1) τ1
  | none => .no
def eTryH (r : R Ct) (exm : PySem.Str → Option Bool) (i : Nat) (δh : DS) : R Ct := match r with
  | .ok (.xc x ρ1) τ1 => eTh (exm x.cls) x ρ1 τ1 i δh
  | r => r
@[simp] theorem ev_TryH : dTryH exm i δ δh ρ τ = eTryH (δ ρ τ) exm i δh := id rfl
@[simp] theorem eTryH_nx : eTryH (.ok (.nx ρ) τ) exm i δh = .ok (.nx ρ) τ := id rfl
@[simp] theorem eTryH_rt : eTryH (.ok (.rt d) τ) exm i δh = .ok (.rt d) τ := id rfl
@[simp] theorem eTryH_bk : eTryH (.ok (.bk ρ) τ) exm i δh = .ok (.bk ρ) τ := id rfl
@[simp] theorem eTryH_ct : eTryH (.ok (.ct ρ) τ) exm i δh = .ok (.ct ρ) τ := id rfl
@[simp] theorem eTryH_xc : eTryH (.ok (.xc x ρ) τ) exm i δh = eTh (exm x.cls) x ρ τ i δh := id rfl
@[simp] theorem eTh_t : eTh (some true) x ρ τ i δh = clrI i (δh (ρ.set i (some (.fr (.exc x.cls x.fs)))) τ) := id rfl
@[simp] theorem clrI_nx : clrI i (.ok (.nx ρ) τ) = .ok (.nx (ρ.set i none)) τ := id rfl
@[simp] theorem clrI_bk : clrI i (.ok (.bk ρ) τ) = .ok (.bk (ρ.set i none)) τ := id rfl
@[simp] theorem clrI_ct : clrI i (.ok (.ct ρ) τ) = .ok (.ct (ρ.set i none)) τ := id rfl
@[simp] theorem clrI_rt : clrI i (.ok (.rt d) τ) = .ok (.rt d) τ := id rfl
def enT? : List DD → Option (List DD)
  | [.tup ds] => some (enumD ds)
  | _ => none
@[simp] theorem enT?_eq {ds : List DD} : enT? [.tup ds] = some (enumD ds) := id rfl
@[simp] theorem ev_IEnumT : dIEnumT a ρ τ = eUn (a ρ τ) enT? := by
  unfold dIEnumT eUn
  congr 1
  funext x τ1
  unfold enT?
  rcases x with _ | ⟨d, _ | ⟨e, x⟩⟩
  · rfl
  · cases d <;> first | rfl | (dsimp only [R.of]; split <;> rfl)
  · cases d <;> rfl
def eMinD (r : R (List DD)) : R DD := r.bind fun xs τ1 => match xs with
  | [.lst ds] => R.of τ1 (gMinD ds)
  | _ => .no
@[simp] theorem ev_MinD : dMinD a ρ τ = eMinD (a ρ τ) := id rfl
@[simp] theorem eMinD_ok {ds : List DD} : eMinD (.ok [.lst ds] τ) = R.of τ (gMinD ds) := id rfl
@[simp] theorem eCons1_x {r : DA} : eCons1 (.ex x τ) r ρ = .ex x τ := id rfl
@[simp] theorem eCons2_x : eCons2 (.ex x τ) d = .ex x τ := id rfl
@[simp] theorem eSeqD_x {f : List DD → DD} : eSeqD (.ex x τ) f = .ex x τ := id rfl
@[simp] theorem eRet_x : eRet (.ex x τ) ρ = .ok (.xc x ρ) τ := id rfl
def en (k : Nat) : List DD → List DD
  | [] => []
  | d :: ds => .tup [.int (k : Int), d] :: en (k + 1) ds
end
end Np
set_option Elab.async false
set_option linter.all false
set_option maxRecDepth 100000
namespace Np
open PySem PySem.Spec PyProof.Rows L2
end Np
set_option Elab.async false
set_option linter.all false
set_option maxRecDepth 100000
set_option maxHeartbeats 4000000
namespace Np
open PySem PySem.Spec PyProof.Rows L2
section
variable {ρ : PEnv} {τ τ1 τ2 τ3 : TS'} {a b : DA} {o e y : DE} {r s : DPs} {i j k n m : Nat} {F : Fn} {as bs : List PV} {cls f : PySem.Str} {fs fs1 : List (PySem.Str × DD)} {d v z : DD} {t t1 : Tau} {ns : List Int} {g : DD → DD → Option DD}
theorem keysS_eq {α : Type} {g : α → DD} {f : α → DD} {p : α → PyData} : ∀ {xs : List α}, (∀ x ∈ xs, e (ρ.set i (some (.fr (g x)))) τ = .ok (f x) τ ∧ toPy (f x) = some (p x)) → keysS e i ρ τ (xs.map g) = some (xs.map p)
  | [], _ => rfl
  | x :: xs, h => by
    obtain ⟨h1, h2⟩ := h x List.mem_cons_self
    have ih := keysS_eq (g := g) (f := f) (p := p) (xs := xs) fun y hy => h y (List.mem_cons_of_mem _ hy)
    rw [List.map_cons, keysS, h1]
    dsimp only
    rw [if_pos rfl, h2, ih]
    rfl
theorem keys_pair {α : Type} (f h : α → Int) (xs : List α) : keysOk (xs.map fun x => PyData.tuple [.int (f x), .int (h x)]) := by
  intro d hd
  obtain ⟨x, _, rfl⟩ := List.mem_map.mp hd
  refine ⟨fun d' hd' => ?_, ?_, fun z => (nomatch z)⟩
  · obtain ⟨y, _, rfl⟩ := List.mem_map.mp hd'
    rfl
  · simp [PyData.depth, PyData.depthAll]
theorem bestSt_eq {α : Type} {g : α → DD} {f h : α → Int} {best : List PyData → Nat} {xs : List α} (ha : a ρ τ = .ok [.lst (xs.map g)] τ1) (hk : ∀ x ∈ xs, e (ρ.set i (some (.fr (g x)))) τ1 = .ok (.tup [.int (f x), .int (h x)]) τ1)
    (hd : (xs.map g)[best (xs.map fun x => PyData.tuple [.int (f x), .int (h x)])]? = some d) : dBestSt best i e a ρ τ = .ok d τ1 := by
  unfold dBestSt
  rw [ha, R.bind_ok]
  dsimp only
  rw [keysS_eq (g := g) (f := fun x => .tup [.int (f x), .int (h x)]) (p := fun x => PyData.tuple [.int (f x), .int (h x)]) fun x hx => ⟨hk x hx, rfl⟩]
  unfold Np.gBestS
  dsimp only
  have hl : 0 < (xs.map g).length := by
    have := (List.getElem?_eq_some_iff.mp hd).1
    omega
  rw [if_pos ⟨hl, keys_pair f h xs⟩, hd]
  rfl
theorem mkSN_ok {g : List PV → List PV → List PV} (h1 : r ρ τ = .ok as τ1) (h2 : s ρ τ1 = .ok bs τ2) (hn : as.length = n) (hm : bs.length = m) (h : mkS k cls F (g as bs) τ2 = .ok d τ3) : dMkSN k n m cls F g r s ρ τ = .ok d τ3 := by
  unfold dMkSN
  rw [h1, R.bind_ok, h2, R.bind_ok, if_pos ⟨hn, hm⟩, h]
  rfl
end
end Np
set_option Elab.async false
set_option linter.all false
set_option maxRecDepth 100000
set_option maxHeartbeats 4000000
namespace Np
open PySem PySem.Spec PyProof.Rows L2
def gRepT : DD → DD → Option DD
  | .tup a, .int k => if a ≠ [] ∧ -(2 ^ 63) ≤ k ∧ k ≤ 1 then some (.tup (if k = 1 then a else [])) else none
  | _, _ => none
section
variable {W : Wp} {Wx : L2.St → XK} {ta te : TE} {δa δ : DE}
@[simp] theorem gRepT_eq {a : List DD} {k : Int} : gRepT (.tup a) (.int k) = if a ≠ [] ∧ -(2 ^ 63) ≤ k ∧ k ≤ 1 then some (.tup (if k = 1 then a else [])) else none := id rfl
end
def gRevT : DD → Option DD
  | .tup ds => some (.tup ds.reverse)
  | _ => none
@[simp] theorem gRevT_eq {ds : List DD} : gRevT (.tup ds) = some (.tup ds.reverse) := id rfl
def dIsXN (kit : Str → Option Bool) (a : DE) : DE := fun ρ τ => (a ρ τ).bind fun x τ1 => match x with
  | .exc C _ => R.of τ1 ((kit C).map .bl)
  | .non => .ok (.bl false) τ1
  | _ => .no
section
variable {W : Wp} {Wx : L2.St → XK} {ta te : TE} {δa δ : DE}
def eIsXN (kit : Str → Option Bool) (x : R DD) : R DD := x.bind fun x τ1 => match x with
  | .exc C _ => R.of τ1 ((kit C).map .bl)
  | .non => .ok (.bl false) τ1
  | _ => .no
variable {ρ : PEnv} {τ : TS'} {kit : Str → Option Bool}
@[simp] theorem ev_IsXN : dIsXN kit δ ρ τ = eIsXN kit (δ ρ τ) := id rfl
@[simp] theorem eIsXN_exc {C : Str} {fs : List (Str × DD)} : eIsXN kit (.ok (.exc C fs) τ) = R.of τ ((kit C).map .bl) := id rfl
@[simp] theorem eIsXN_non : eIsXN kit (.ok .non τ) = .ok (.bl false) τ := id rfl
@[simp] theorem eIsXN_ex {x : Ex} : eIsXN kit (.ex x τ) = .ex x τ := id rfl
end
end Np
set_option Elab.async false
set_option linter.all false
set_option maxRecDepth 100000
set_option maxHeartbeats 4000000
namespace Nk22
open PySem L2 Np
noncomputable section
def b_BlockD_initD_L1 : DS :=
    (dIfS (dTest (dOp gGt (dCall (c1 gLenS) (dCons (dV 3) dNil)) (dV 2)))
    (dRaise "Unlike" ["one", "other"] (dCons (dCall (c1 gLenS) (dCons (dV 3) dNil)) (dCons (dV 2) dNil)))
    dNx)
def b_BlockD_initD_pre : DS :=
    (dFor (dIList (dV 1)) (.nm 3)
    b_BlockD_initD_L1)
def b_BlockD_initD_tail : DI' :=
    (dISet "kept" (dLc (dIList (dV 1)) (.nm 3) dYes (dMs gLjust (dV 3) (dCons (dV 2) dNil)) [3])
    (dISet "wide" (dV 2)
    (dIEnd "Block")))
def d_BlockD_initD : FnI := bodyI 4 b_BlockD_initD_pre b_BlockD_initD_tail
def b_BlockD_lenD : DS :=
    (dRet (dCall (c1 gLenL) (dCons (dFld "Block" "kept" (dV 0)) dNil)))
def d_BlockD_lenD : Fn := bodyF 1 b_BlockD_lenD
def b_Block_lines : DS :=
    (dRetF (dListF (dCons (dFld "Block" "kept" (dV 0)) dNil)))
def d_Block_lines : FnO := bodyO 1 b_Block_lines
def b_framed_2 : DS :=
    (dRet (dMkN' 3 2 0 d_BlockD_initD (pickL [] [.a 0, .a 1]) (dpCons (dpE (dOp gCat (dOp gCat (dLst (dCons (dV 1) dNil)) (dV 2)) (dLst (dCons (dV 1) dNil)))) (dpCons (dpE (dOp gAdd (dFld "Block" "wide" (dV 0)) (dC (.int 4)))) dpNil)) dpNil))
def b_framed_1 : DS :=
    (dSeq (dSet 2 (dLc (dIList (dFz (dMethON 1 "Block" "lines" d_Block_lines (dV 0) dpNil))) (.nm 3) dYes (dJs [(dC (.str "| ")), (dUn gFmt (dV 3)), (dC (.str " |"))] Str.empty) [3]))
    b_framed_2)
def b_framed : DS :=
    (dSeq (dSet 1 (dOp gCatS (dOp gCatS (dC (.str "+")) (dOp gMulS (dC (.str "-")) (dOp gAdd (dFld "Block" "wide" (dV 0)) (dC (.int 2))))) (dC (.str "+"))))
    b_framed_1)
def d_framed : Fn := bodyF 4 b_framed
def b_parted_L1_1 : DS :=
    (dSet 0 (dSl gSlS (dV 0) (dPart (dOp Np.gSub (dV 1) (dC (.int 1)))) dNoP))
def b_parted_L1 : DS :=
    (dSeq (dApp 2 (dOp gCatS (dSl gSlS (dV 0) dNoP (dPart (dOp Np.gSub (dV 1) (dC (.int 1))))) (dC (.str "-"))))
    b_parted_L1_1)
def b_parted_2 : DS :=
    (dFrz 2 (dRet (dOp gCat (dV 2) (dLst (dCons (dV 0) dNil)))))
def b_parted_1 : DS :=
    (dSeq (dWhile 1073741824 (dTest (dOp gGt (dCall (c1 gLenS) (dCons (dV 0) dNil)) (dV 1)))
    b_parted_L1)
    b_parted_2)
def b_parted : DS :=
    (dSeq (dSetO 2 (dLstF dNil))
    b_parted_1)
def d_parted : Fn := bodyF 3 b_parted
def b_words_of : DS :=
    (dRet (dLc (dIList (dM1 gSplit (dV 0) (dC (.str " ")))) (.nm 1) (dTest (dOp (gEq true) (dV 1) (dC (.str "")))) (dV 1) [1]))
def d_words_of : Fn := bodyF 2 b_words_of
def b_filled_L1_2 : DS :=
    (dAug 3 Np.gSub (dOp gAdd (dCall (c1 gLenS) (dCons (dV 4) dNil)) (dC (.int 1))))
def b_filled_L1_1 : DS :=
    (dSeq (dAppIx 2 (dUn gNeg (dC (.int 1))) (dV 4))
    b_filled_L1_2)
def b_filled_L1 : DS :=
    (dSeq (dIfS (dTest (dOp gGt (dCall (c1 gLenS) (dCons (dV 4) dNil)) (dV 3)))
    (dSeq (dAppT 2 (dLstF dNil))
    (dSet 3 (dV 1)))
    dNx)
    b_filled_L1_1)
def b_filled_3 : DS :=
    (dFrz 2 (dRet (dV 2)))
def b_filled_2 : DS :=
    (dSeq (dFor (dIList (dV 0)) (.nm 4)
    b_filled_L1)
    b_filled_3)
def b_filled_1 : DS :=
    (dSeq (dSet 3 (dUn gNeg (dC (.int 1))))
    b_filled_2)
def b_filled : DS :=
    (dSeq (dSetO 2 (dTrF (dLstF dNil)))
    b_filled_1)
def d_filled : Fn := bodyF 5 b_filled
def b_spread_L1 : DS :=
    (dAug 6 gCatS (dOp gCatS (dOp gMulS (dC (.str " ")) (dOp gAdd (dV 3) (dCall (c1 gInt1) (dCons (dOp gLt (dV 7) (dV 4)) dNil)))) (dV 5)))
def b_spread_5 : DS :=
    (dRet (dV 6))
def b_spread_4 : DS :=
    (dSeq (dFor (dIEnum (dCons (dSl gSlL (dV 0) (dPart (dC (.int 1))) dNoP) dNil)) (.tp [(.nm 7), (.nm 5)])
    b_spread_L1)
    b_spread_5)
def b_spread_3 : DS :=
    (dSeq (dSet 6 (dOp gIxL (dV 0) (dC (.int 0))))
    b_spread_4)
def b_spread_2 : DS :=
    (dSeq (dAsgT (dCall (c2 gDivmod) (dCons (dOp Np.gSub (dV 1) (dCall (c1 gSum) (dCons (dLc (dIList (dV 0)) (.nm 5) dYes (dCall (c1 gLenS) (dCons (dV 5) dNil)) [5]) dNil))) (dCons (dV 2) dNil))) (.tp [(.nm 3), (.nm 4)]))
    b_spread_3)
def b_spread_1 : DS :=
    (dSeq (dIfS (dTest (dOp (gEq false) (dV 2) (dC (.int 0))))
    (dRet (dOp gIxL (dV 0) (dC (.int 0))))
    dNx)
    b_spread_2)
def b_spread : DS :=
    (dSeq (dSet 2 (dOp Np.gSub (dCall (c1 gLenL) (dCons (dV 0) dNil)) (dC (.int 1))))
    b_spread_1)
def d_spread : Fn := bodyF 8 b_spread
def b_paragraph_rows_L1 : DS :=
    (dExt 3 (dCallN 2 d_parted [] (dpCons (dpE (dV 4)) (dpCons (dpE (dV 1)) dpNil))))
def b_paragraph_rows_5 : DS :=
    (dRet (dLc (dIList (dV 6)) (.nm 7) dYes (dMs gLjust (dV 7) (dCons (dV 1) dNil)) [7]))
def b_paragraph_rows_4 : DS :=
    (dSeq (dIfS (dTest (dV 2))
    (dSet 6 (dOp gCat (dLc (dIList (dSl gSlL (dV 5) dNoP (dPart (dUn gNeg (dC (.int 1)))))) (.nm 7) dYes (dCallN 2 d_spread [] (dpCons (dpE (dV 7)) (dpCons (dpE (dV 1)) dpNil))) [7]) (dSl gSlL (dV 6) (dPart (dUn gNeg (dC (.int 1)))) dNoP)))
    dNx)
    b_paragraph_rows_5)
def b_paragraph_rows_3 : DS :=
    (dSeq (dSet 6 (dLc (dIList (dV 5)) (.nm 7) dYes (dM1 gJoin (dC (.str " ")) (dV 7)) [7]))
    b_paragraph_rows_4)
def b_paragraph_rows_2 : DS :=
    (dSeq (dFrz 3 (dSet 5 (dCallN 2 d_filled [] (dpCons (dpE (dV 3)) (dpCons (dpE (dV 1)) dpNil)))))
    b_paragraph_rows_3)
def b_paragraph_rows_1 : DS :=
    (dSeq (dFor (dIList (dV 0)) (.nm 4)
    b_paragraph_rows_L1)
    b_paragraph_rows_2)
def b_paragraph_rows : DS :=
    (dSeq (dSetO 3 (dLstF dNil))
    b_paragraph_rows_1)
def d_paragraph_rows : Fn := bodyF 8 b_paragraph_rows
def b_set_rows_L1_1 : DS :=
    (dIfS (dTest (dOp gNeD (dV 6) (dLst dNil)))
    (dSeq (dIfS (dBorT 4 (dTest (dOp gNeD (dV 4) (dLst dNil))))
    (dExt 4 (dLc (dIR1 (dCons (dV 3) dNil)) (.nm 7) dYes (dOp gMulS (dC (.str " ")) (dV 1)) [7]))
    dNx)
    (dExt 4 (dCallN 3 d_paragraph_rows [] (dpCons (dpE (dV 6)) (dpCons (dpE (dV 1)) (dpCons (dpE (dV 2)) dpNil))))))
    dNx)
def b_set_rows_L1 : DS :=
    (dSeq (dSet 6 (dCallN 1 d_words_of [] (dpCons (dpE (dV 5)) dpNil)))
    b_set_rows_L1_1)
def b_set_rows_2 : DS :=
    (dFrz 4 (dRet (dV 4)))
def b_set_rows_1 : DS :=
    (dSeq (dFor (dIList (dM1 gSplit (dV 0) (dC (.str "\n")))) (.nm 5)
    b_set_rows_L1)
    b_set_rows_2)
def b_set_rows : DS :=
    (dSeq (dSetO 4 (dLstF dNil))
    b_set_rows_1)
def d_set_rows : Fn := bodyF 8 b_set_rows
def b_wide_of : DS :=
    (dRet (dOp gAdd (dOp gMul (dV 1) (dOp gIxT (dV 0) (dC (.int 1)))) (dOp gMul (dOp Np.gSub (dV 1) (dC (.int 1))) (dC (.int 3)))))
def d_wide_of : Fn := bodyF 2 b_wide_of
def b_ad_block_2 : DS :=
    (dRet (dCallN 1 d_framed [] (dpCons (dpE (dMkN' 3 2 0 d_BlockD_initD (pickL [] [.a 0, .a 1]) (dpCons (dpE (dCallKN 4 2 1 d_set_rows (pickL [.fr (.bl true), .fr (.int 0)] [.a 0, .a 1, .z 0, .c 1]) (dpCons (dpE (dV 4)) (dpCons (dpE (dV 5)) dpNil)) (dpCons (dpE (dC (.bl false))) dpNil))) (dpCons (dpE (dV 5)) dpNil)) dpNil)) dpNil)))
def b_ad_block_1 : DS :=
    (dSeq (dSet 5 (dOp Np.gSub (dCallN 2 d_wide_of [] (dpCons (dpE (dV 0)) (dpCons (dpE (dV 3)) dpNil))) (dC (.int 4))))
    b_ad_block_2)
def b_ad_block : DS :=
    (dSeq (dAsgT (dV 1) (.tp [(.nm 2), (.nm 3), (.nm 4)]))
    b_ad_block_1)
def d_ad_block : Fn := bodyF 6 b_ad_block
def b_StandD_initD_5 : DS :=
    (dSFSet "Stand" "unstood" (dV 0) (dSto (dLstF dNil)))
def b_StandD_initD_4 : DS :=
    (dSeq (dSFSet "Stand" "blocks" (dV 0) (dSto (dLstF dNil)))
    b_StandD_initD_5)
def b_StandD_initD_3 : DS :=
    (dSeq (dSFSet "Stand" "spots" (dV 0) (dSto (dLstF dNil)))
    b_StandD_initD_4)
def b_StandD_initD_2 : DS :=
    (dSeq (dSFSet "Stand" "tops" (dV 0) (dSto (dOpF gRep (dLst (dCons (dC (.int 0)) dNil)) (dOp gIxT (dV 1) (dC (.int 0))))))
    b_StandD_initD_3)
def b_StandD_initD_1 : DS :=
    (dSeq (dSFSet "Stand" "keep" (dV 0) (dV 2))
    b_StandD_initD_2)
def b_StandD_initD : DS :=
    (dSeq (dSFSet "Stand" "form" (dV 0) (dV 1))
    b_StandD_initD_1)
def d_StandD_initD : Fn := bodyF 3 b_StandD_initD
def b_Stand_top_over : DS :=
    (dRet (dCall (c1 gMaxL) (dCons (dSSl (dSFld "Stand" "tops" (dV 0)) (dPart (dV 1)) (dPart (dOp gAdd (dV 1) (dV 2)))) dNil)))
def d_Stand_top_over : Fn := bodyF 3 b_Stand_top_over
def b_Stand_lowest_1 : DS :=
    (dRet (dBestSt bestD 3 (dTup (dCons (dSMeN 3 "Stand" "top_over" d_Stand_top_over (dV 0) (dpCons (dpE (dV 3)) (dpCons (dpE (dV 1)) dpNil))) (dCons (dOp Np.gSub (dC (.int 0)) (dV 3)) dNil))) (dCons (dV 2) dNil)))
def b_Stand_lowest : DS :=
    (dSeq (dSet 2 (dUn gRgL1 (dOp gAdd (dOp Np.gSub (dOp gIxT (dSFld "Stand" "form" (dV 0)) (dC (.int 0))) (dV 1)) (dC (.int 1)))))
    b_Stand_lowest_1)
def d_Stand_lowest : Fn := bodyF 4 b_Stand_lowest
def b_Stand_put_L1 : DS :=
    (dStPut (dSFld "Stand" "tops" (dV 0)) (dV 9) (dOp gAdd (dV 8) (dV 6)))
def b_Stand_put_8 : DS :=
    (dFor (dIR2 (dCons (dV 7) (dCons (dOp gAdd (dV 7) (dV 3)) dNil))) (.nm 9)
    b_Stand_put_L1)
def b_Stand_put_7 : DS :=
    (dSeq (dStApp (dSFld "Stand" "blocks" (dV 0)) (dV 5))
    b_Stand_put_8)
def b_Stand_put_6 : DS :=
    (dSeq (dStApp (dSFld "Stand" "spots" (dV 0)) (dTup (dCons (dV 2) (dCons (dV 7) (dCons (dOp Np.gSub (dOp Np.gSub (dOp gIxT (dSFld "Stand" "form" (dV 0)) (dC (.int 2))) (dV 8)) (dV 6)) (dCons (dV 6) dNil))))))
    b_Stand_put_7)
def b_Stand_put_5 : DS :=
    (dSeq (dIfS (dTest (dOp gGt (dOp gAdd (dOp gAdd (dV 8) (dV 6)) (dSFld "Stand" "keep" (dV 0))) (dOp gIxT (dSFld "Stand" "form" (dV 0)) (dC (.int 2)))))
    (dSeq (dStApp (dSFld "Stand" "unstood" (dV 0)) (dV 2))
    dRetN)
    dNx)
    b_Stand_put_6)
def b_Stand_put_4 : DS :=
    (dSeq (dSet 8 (dSMeN 3 "Stand" "top_over" d_Stand_top_over (dV 0) (dpCons (dpE (dV 7)) (dpCons (dpE (dV 3)) dpNil))))
    b_Stand_put_5)
def b_Stand_put_3 : DS :=
    (dSeq (dSet 7 (dSMeN 2 "Stand" "lowest" d_Stand_lowest (dV 0) (dpCons (dpE (dV 3)) dpNil)))
    b_Stand_put_4)
def b_Stand_put_2 : DS :=
    (dSeq (dSet 6 (dLenO "Block" d_BlockD_lenD (dCons (dV 5) dNil)))
    b_Stand_put_3)
def b_Stand_put_1 : DS :=
    (dSeq (dSet 5 (dCallN 2 d_ad_block [] (dpCons (dpE (dSFld "Stand" "form" (dV 0))) (dpCons (dpE (dV 1)) dpNil))))
    b_Stand_put_2)
def b_Stand_put : DS :=
    (dSeq (dAsgT (dV 1) (.tp [(.nm 2), (.nm 3), (.nm 4)]))
    b_Stand_put_1)
def d_Stand_put : Fn := bodyF 10 b_Stand_put
def b_stood_L1 : DS :=
    (dDrop (dSMeN 2 "Stand" "put" d_Stand_put (dV 3) (dpCons (dpE (dV 4)) dpNil)))
def b_stood_2 : DS :=
    (dRet (dV 3))
def b_stood_1 : DS :=
    (dSeq (dFor (dIList (dV 1)) (.nm 4)
    b_stood_L1)
    b_stood_2)
def b_stood : DS :=
    (dSeq (dSet 3 (dMkSN 3 2 0 "Stand" d_StandD_initD (pickL [] [.a 0, .a 1]) (dpCons (dpE (dV 0)) (dpCons (dpE (dV 2)) dpNil)) dpNil))
    b_stood_1)
def d_stood : Fn := bodyF 5 b_stood
def b_stand_ads_1 : DS :=
    (dRet (dTup (dCons (dSto (dSLstF (dCons (dSFld "Stand" "spots" (dV 3)) dNil))) (dCons (dSto (dSLstF (dCons (dSFld "Stand" "unstood" (dV 3)) dNil))) dNil))))
def b_stand_ads : DS :=
    (dSeq (dSet 3 (dCallN 3 d_stood [] (dpCons (dpE (dV 0)) (dpCons (dpE (dV 1)) (dpCons (dpE (dV 2)) dpNil)))))
    b_stand_ads_1)
def d_stand_ads : Fn := bodyF 4 b_stand_ads
def b__law_draw_8 : DS :=
    (dRet (dOp gMod (dOp gFdiv (dOp gMod (dOp gMul (dV 5) (dOp gAdd (dOp gMod (dV 5) (dC (.int 65521))) (dC (.int 1)))) (dC (.int 2147483587))) (dC (.int 64))) (dV 1)))
def b__law_draw_7 : DS :=
    (dSeq (dSet 5 (dOp gMod (dOp gAdd (dOp gMul (dV 5) (dV 5)) (dOp gMul (dC (.int 69621)) (dV 3))) (dC (.int 2147483629))))
    b__law_draw_8)
def b__law_draw_6 : DS :=
    (dSeq (dSet 5 (dOp gMod (dOp gMul (dOp gAdd (dOp gAdd (dOp gMod (dV 4) (dC (.int 2147483647))) (dOp gMul (dOp gMul (dC (.int 7919)) (dV 3)) (dV 3))) (dC (.int 104729))) (dC (.int 48271))) (dC (.int 2147483647))))
    b__law_draw_7)
def b__law_draw_5 : DS :=
    (dSeq (dIfS (dAnd (dTest (dOp gGe (dV 4) (dOp gPow (dC (.int 10)) (dC (.int 18))))) (dTest (dOp gLt (dV 3) (dCall (c1 gLenL) (dCons (dTp 0 0) dNil)))))
    (dSeq (dTpPut 0 2 (dOp gFdivN (dV 4) (dV 1)))
    (dRet (dOp gMod (dV 4) (dV 1))))
    dNx)
    b__law_draw_6)
def b__law_draw_4 : DS :=
    (dSeq (dIfS (dTest (dOp gGt (dCall (c1 gLenL) (dCons (dTp 0 0) dNil)) (dC (.int 0))))
    (dSet 4 (dOp gIxL (dTp 0 0) (dOp gMod (dV 3) (dCall (c1 gLenL) (dCons (dTp 0 0) dNil)))))
    dNx)
    b__law_draw_5)
def b__law_draw_3 : DS :=
    (dSeq (dSet 4 (dV 3))
    b__law_draw_4)
def b__law_draw_2 : DS :=
    (dSeq (dTpPut 0 1 (dOp gAdd (dV 3) (dC (.int 1))))
    b__law_draw_3)
def b__law_draw_1 : DS :=
    (dSeq (dSet 3 (dTp 0 1))
    b__law_draw_2)
def b__law_draw : DS :=
    (dSeq (dIfS (dTest (dOp gGt (dTp 0 2) (dC (.int 0))))
    (dSeq (dSet 2 (dOp gMod (dTp 0 2) (dV 1)))
    (dSeq (dTpPut 0 2 (dOp gFdivN (dTp 0 2) (dV 1)))
    (dRet (dV 2))))
    dNx)
    b__law_draw_1)
def d__law_draw : Fn := bodyF 6 b__law_draw
def b__law_names_5 : DS :=
    (dRet (dLc (dIR1 (dCons (dV 1) dNil)) (.nm 5) dYes (dOp gIxL (dV 2) (dOp gMod (dOp gAdd (dV 3) (dOp gMul (dV 4) (dV 5))) (dC (.int 41)))) [5]))
def b__law_names_4 : DS :=
    (dSeq (dSet 4 (dOp gIxL (dLst (dCons (dC (.int 1)) (dCons (dC (.int 3)) (dCons (dC (.int 7)) (dCons (dC (.int 11)) (dCons (dC (.int 13)) (dCons (dC (.int 40)) dNil))))))) (dCallN 2 d__law_draw [] (dpCons (dpT 0) (dpCons (dpE (dC (.int 6))) dpNil)))))
    b__law_names_5)
def b__law_names_3 : DS :=
    (dSeq (dSet 3 (dCallN 2 d__law_draw [] (dpCons (dpT 0) (dpCons (dpE (dC (.int 41))) dpNil))))
    b__law_names_4)
def b__law_names_2 : DS :=
    (dSeq (dSet 2 (dOp gCat (dV 2) (dLst (dCons (dC (.str "ey")) (dCons (dC (.str "fy")) (dCons (dC (.str "gy")) (dCons (dC (.str "hy")) (dCons (dC (.str "iy")) (dCons (dC (.str "jy")) (dCons (dC (.str "ky")) (dCons (dC (.str "ly")) (dCons (dC (.str "my")) (dCons (dC (.str "ny")) (dCons (dC (.str "oy")) dNil))))))))))))))
    b__law_names_3)
def b__law_names_1 : DS :=
    (dSeq (dSet 2 (dOp gCat (dV 2) (dLst (dCons (dC (.str "q")) (dCons (dC (.str "set")) (dCons (dC (.str "m")) (dCons (dC (.str "is")) (dCons (dC (.str "go")) (dCons (dC (.str "one")) (dCons (dC (.str "xy")) (dCons (dC (.str "above")) (dCons (dC (.str "number")) (dCons (dC (.str "n")) (dCons (dC (.str "plus")) (dCons (dC (.str "ax")) (dCons (dC (.str "bx")) (dCons (dC (.str "cx")) (dCons (dC (.str "dx")) dNil))))))))))))))))))
    b__law_names_2)
def b__law_names : DS :=
    (dSeq (dSet 2 (dLst (dCons (dC (.str "a")) (dCons (dC (.str "b")) (dCons (dC (.str "zz")) (dCons (dC (.str "might")) (dCons (dC (.str "aa")) (dCons (dC (.str "z")) (dCons (dC (.str "abcdefgh")) (dCons (dC (.str "abcdefgi")) (dCons (dC (.str "own")) (dCons (dC (.str "x")) (dCons (dC (.str "add")) (dCons (dC (.str "ab")) (dCons (dC (.str "ba")) (dCons (dC (.str "given")) (dCons (dC (.str "end")) dNil)))))))))))))))))
    b__law_names_1)
def d__law_names : Fn := bodyF 6 b__law_names
def b__law_word_3 : DS :=
    (dRet (dM1 gJoin (dC (.str "")) (dLc (dIR1 (dCons (dV 3) dNil)) (.nm 6) dYes (dOp gIxS (dV 2) (dOp gMod (dOp gAdd (dV 4) (dOp gMul (dV 5) (dV 6))) (dC (.int 91)))) [6])))
def b__law_word_2 : DS :=
    (dSeq (dAsgT (dTup (dCons (dCallN 2 d__law_draw [] (dpCons (dpT 0) (dpCons (dpE (dC (.int 91))) dpNil))) (dCons (dOp gIxL (dLst (dCons (dC (.int 1)) (dCons (dC (.int 5)) (dCons (dC (.int 11)) (dCons (dC (.int 29)) (dCons (dC (.int 90)) dNil)))))) (dCallN 2 d__law_draw [] (dpCons (dpT 0) (dpCons (dpE (dC (.int 5))) dpNil)))) dNil))) (.tp [(.nm 4), (.nm 5)]))
    b__law_word_3)
def b__law_word_1 : DS :=
    (dSeq (dSet 3 (dOp gAdd (dC (.int 1)) (dCallN 2 d__law_draw [] (dpCons (dpT 0) (dpCons (dpE (dOp gIxL (dLst (dCons (dC (.int 4)) (dCons (dC (.int 7)) (dCons (dV 1) dNil)))) (dCallN 2 d__law_draw [] (dpCons (dpT 0) (dpCons (dpE (dC (.int 3))) dpNil))))) dpNil)))))
    b__law_word_2)
def b__law_word : DS :=
    (dSeq (dSet 2 (dC (.str "abcdefghijklmnopqrstuvwxyzABCDEFGHIJKLMNOPQRSTUVWXYZ0123456789.,;:!?'\"()[]<>/\\|@#$^&*_=+~`-")))
    b__law_word_1)
def d__law_word : Fn := bodyF 7 b__law_word
def b__law_text_L1_1 : DS :=
    (dSet 3 (dOp gCatS (dOp gCatS (dV 3) (dOp gIxL (dLst (dCons (dV 5) (dCons (dC (.str "")) dNil))) (dCall (c1 gInt1) (dCons (dOp (gEq false) (dV 3) (dC (.str ""))) dNil)))) (dCallN 2 d__law_word [] (dpCons (dpT 0) (dpCons (dpE (dC (.int 45))) dpNil)))))
def b__law_text_L1 : DS :=
    (dSeq (dSet 5 (dOp gIxL (dLst (dCons (dC (.str " ")) (dCons (dC (.str " ")) (dCons (dC (.str " ")) (dCons (dC (.str " ")) (dCons (dC (.str "  ")) (dCons (dC (.str "\n")) (dCons (dC (.str "\n\n")) (dCons (dC (.str " \n ")) dNil))))))))) (dCallN 2 d__law_draw [] (dpCons (dpT 0) (dpCons (dpE (dOp gIxL (dLst (dCons (dC (.int 5)) (dCons (dC (.int 8)) dNil))) (dCall (c1 gInt1) (dCons (dV 2) dNil)))) dpNil)))))
    b__law_text_L1_1)
def b__law_text_2 : DS :=
    (dRet (dV 3))
def b__law_text_1 : DS :=
    (dSeq (dFor (dIR1 (dCons (dV 1) dNil)) (.nm 4)
    b__law_text_L1)
    b__law_text_2)
def b__law_text : DS :=
    (dSeq (dSet 3 (dC (.str "")))
    b__law_text_1)
def d__law_text : Fn := bodyF 6 b__law_text
def b__law_form_2 : DS :=
    (dRet (dTup (dCons (dV 1) (dCons (dOp gAdd (dC (.int 16)) (dCallN 2 d__law_draw [] (dpCons (dpT 0) (dpCons (dpE (dC (.int 25))) dpNil)))) (dCons (dV 2) dNil)))))
def b__law_form_1 : DS :=
    (dSeq (dPar 1 2 (dCons (dOp gAdd (dC (.int 1)) (dCallN 2 d__law_draw [] (dpCons (dpT 0) (dpCons (dpE (dOp gIxL (dLst (dCons (dC (.int 3)) (dCons (dC (.int 6)) dNil))) (dCallN 2 d__law_draw [] (dpCons (dpT 0) (dpCons (dpE (dC (.int 2))) dpNil))))) dpNil)))) (dCons (dOp gAdd (dC (.int 6)) (dCallN 2 d__law_draw [] (dpCons (dpT 0) (dpCons (dpE (dOp gIxL (dLst (dCons (dC (.int 25)) (dCons (dC (.int 55)) dNil))) (dCallN 2 d__law_draw [] (dpCons (dpT 0) (dpCons (dpE (dC (.int 2))) dpNil))))) dpNil)))) dNil)))
    b__law_form_2)
def b__law_form : DS :=
    (dSeq (dIfS (dTest (dOp (gEq false) (dCallN 2 d__law_draw [] (dpCons (dpT 0) (dpCons (dpE (dC (.int 9))) dpNil))) (dC (.int 0))))
    (dRet (dTup (dCons (dC (.int 6)) (dCons (dC (.int 40)) (dCons (dC (.int 60)) dNil)))))
    dNx)
    b__law_form_1)
def d__law_form : Fn := bodyF 3 b__law_form
def b__law_ad_2 : DS :=
    (dRet (dTup (dCons (dV 2) (dCons (dOp gAdd (dC (.int 1)) (dCallN 2 d__law_draw [] (dpCons (dpT 0) (dpCons (dpE (dOp gIxT (dV 1) (dC (.int 0)))) dpNil)))) (dCons (dV 4) dNil)))))
def b__law_ad_1 : DS :=
    (dSeq (dSet 4 (dUn (gRepl ">" "}") (dUn (gRepl "<" "{") (dCallN 3 d__law_text [] (dpCons (dpT 0) (dpCons (dpE (dCallN 2 d__law_draw [] (dpCons (dpT 0) (dpCons (dpE (dV 3)) dpNil)))) (dpCons (dpE (dC (.bl true))) dpNil)))))))
    b__law_ad_2)
def b__law_ad : DS :=
    (dSeq (dSet 3 (dOp gIxL (dLst (dCons (dC (.int 3)) (dCons (dC (.int 9)) (dCons (dC (.int 40)) dNil)))) (dCallN 2 d__law_draw [] (dpCons (dpT 0) (dpCons (dpE (dC (.int 3))) dpNil)))))
    b__law_ad_1)
def d__law_ad : Fn := bodyF 5 b__law_ad
def b__law_ads_L1 : DS :=
    (dApp 4 (dCallN 3 d__law_ad [] (dpCons (dpT 0) (dpCons (dpE (dV 1)) (dpCons (dpE (dOp gIxL (dV 3) (dOp Np.gSub (dV 5) (dCall (c1 gInt1) (dCons (dAndV (dOp gGt (dV 5) (dC (.int 2))) (dOp (gEq false) (dCallN 2 d__law_draw [] (dpCons (dpT 0) (dpCons (dpE (dC (.int 9))) dpNil))) (dC (.int 0)))) dNil))))) dpNil)))))
def b__law_ads_2 : DS :=
    (dFrz 4 (dRet (dV 4)))
def b__law_ads_1 : DS :=
    (dSeq (dFor (dIR1 (dCons (dCallN 2 d__law_draw [] (dpCons (dpT 0) (dpCons (dpE (dOp gAdd (dV 2) (dC (.int 1)))) dpNil))) dNil)) (.nm 5)
    b__law_ads_L1)
    b__law_ads_2)
def b__law_ads : DS :=
    (dSeq (dParFO 3 4 (dCallN 2 d__law_names [] (dpCons (dpT 0) (dpCons (dpE (dC (.int 8))) dpNil))) (dLstF dNil))
    b__law_ads_1)
def d__law_ads : Fn := bodyF 6 b__law_ads
def b__law_ad_rows_2 : DS :=
    (dRet (dOp gCat (dOp gCat (dLst (dCons (dOp gCatS (dOp gCatS (dC (.str "+")) (dOp gMulS (dC (.str "-")) (dOp Np.gSub (dV 2) (dC (.int 2))))) (dC (.str "+"))) dNil)) (dV 3)) (dLst (dCons (dOp gCatS (dOp gCatS (dC (.str "+")) (dOp gMulS (dC (.str "-")) (dOp Np.gSub (dV 2) (dC (.int 2))))) (dC (.str "+"))) dNil))))
def b__law_ad_rows_1 : DS :=
    (dSeq (dSet 3 (dLc (dIList (dCallN 4 d_set_rows [.fr (.int 0)] (dpCons (dpE (dOp gIxT (dV 1) (dC (.int 2)))) (dpCons (dpE (dOp Np.gSub (dV 2) (dC (.int 4)))) (dpCons (dpE (dC (.bl false))) dpNil))))) (.nm 4) dYes (dOp gCatS (dOp gCatS (dC (.str "| ")) (dMs gLjust (dV 4) (dCons (dOp Np.gSub (dV 2) (dC (.int 4))) dNil))) (dC (.str " |"))) [4]))
    b__law_ad_rows_2)
def b__law_ad_rows : DS :=
    (dSeq (dSet 2 (dOp gAdd (dOp gMul (dOp gIxT (dV 1) (dC (.int 1))) (dOp gIxT (dV 0) (dC (.int 1)))) (dOp gMul (dC (.int 3)) (dOp Np.gSub (dOp gIxT (dV 1) (dC (.int 1))) (dC (.int 1))))))
    b__law_ad_rows_1)
def d__law_ad_rows : Fn := bodyF 5 b__law_ad_rows
def b__law_stood_L2 : DS :=
    (dPutL 3 (dV 10) (dOp gAdd (dV 11) (dV 8)))
def b__law_stood_L1_3 : DS :=
    (dIfS (dTest (dOp gGt (dOp gAdd (dOp gAdd (dV 11) (dV 8)) (dV 2)) (dOp gIxT (dV 0) (dC (.int 2)))))
    (dApp 5 (dOp gIxT (dV 7) (dC (.int 0))))
    (dSeq (dApp 4 (dTup (dCons (dOp gIxT (dV 7) (dC (.int 0))) (dCons (dUn gNeg (dV 12)) (dCons (dOp Np.gSub (dOp Np.gSub (dOp gIxT (dV 0) (dC (.int 2))) (dV 11)) (dV 8)) (dCons (dV 8) dNil))))))
    (dSeq (dApp 6 (dV 7))
    (dFor (dIR2 (dCons (dUn gNeg (dV 12)) (dCons (dOp Np.gSub (dOp gIxT (dV 7) (dC (.int 1))) (dV 12)) dNil))) (.nm 10)
    b__law_stood_L2))))
def b__law_stood_L1_2 : DS :=
    (dSeq (dAsgT (dCall (c1 gMinLD) (dCons (dV 9) dNil)) (.tp [(.nm 11), (.nm 12)]))
    b__law_stood_L1_3)
def b__law_stood_L1_1 : DS :=
    (dSeq (dSet 9 (dLc (dIR1 (dCons (dOp gAdd (dOp Np.gSub (dOp gIxT (dV 0) (dC (.int 0))) (dOp gIxT (dV 7) (dC (.int 1)))) (dC (.int 1))) dNil)) (.nm 10) dYes (dTup (dCons (dBor 3 (dCall (c1 gMaxL) (dCons (dSl gSlL (dV 3) (dPart (dV 10)) (dPart (dOp gAdd (dV 10) (dOp gIxT (dV 7) (dC (.int 1)))))) dNil))) (dCons (dUn gNeg (dV 10)) dNil))) [10]))
    b__law_stood_L1_2)
def b__law_stood_L1 : DS :=
    (dSeq (dSet 8 (dCall (c1 gLenL) (dCons (dCallN 2 d__law_ad_rows [] (dpCons (dpE (dV 0)) (dpCons (dpE (dV 7)) dpNil))) dNil)))
    b__law_stood_L1_1)
def b__law_stood_2 : DS :=
    (dFrz 3 (dFrz 4 (dFrz 5 (dFrz 6 (dRet (dTup (dCons (dV 4) (dCons (dV 5) (dCons (dLc (dIList (dV 3)) (.nm 11) dYes (dOp Np.gSub (dOp gIxT (dV 0) (dC (.int 2))) (dV 11)) [11]) (dCons (dV 6) dNil))))))))))
def b__law_stood_1 : DS :=
    (dSeq (dFor (dIList (dV 1)) (.nm 7)
    b__law_stood_L1)
    b__law_stood_2)
def b__law_stood : DS :=
    (dSeq (dPar4O 3 4 5 6 (dOpF gRep (dLst (dCons (dC (.int 0)) dNil)) (dOp gIxT (dV 0) (dC (.int 0)))) (dLstF dNil) (dLstF dNil) (dLstF dNil))
    b__law_stood_1)
def d__law_stood : Fn := bodyF 13 b__law_stood
def b_law_L3_1 : DS :=
    (dStClr (dOp gIxT (dV 10) (dC (.int 1))))
def b_law_L3 : DS :=
    (dSeq (dStApp (dOp gIxT (dV 10) (dC (.int 0))) (dC .non))
    b_law_L3_1)
def b_law_L2_6 : DS :=
    (dIfS (dTest (dOpV gNeD (dCallN 3 d_stand_ads [] (dpCons (dpE (dV 2)) (dpCons (dpE (dV 8)) (dpCons (dpE (dV 6)) dpNil)))) (dV 7)))
    (dRet (dC (.bl false)))
    dNx)
def b_law_L2_5 : DS :=
    (dSeq (dFrz 9 (dFor (dIList (dV 9)) (.nm 10)
    b_law_L3))
    b_law_L2_6)
def b_law_L2_4 : DS :=
    (dSeq (dFrz 9 (dIfS (dOr (dTest (dOp gNeD (dLc (dIList (dV 9)) (.nm 10) (dTest (dOp (gEq true) (dCallV (c1 gRepr) (dCons (dV 10) dNil)) (dCall (c1 gRepr) (dCons (dV 7) dNil)))) (dV 10) [10]) (dLst dNil))) (dTest (dOp gNeD (dV 8) (dV 4))))
    (dRet (dC (.bl false)))
    dNx))
    b_law_L2_5)
def b_law_L2_3 : DS :=
    (dSeq (dIfS (dTest (dOp (gEq false) (dV 6) (dC (.int 4))))
    (dApp 9 (dCallN 3 d_stand_ads [.fr (.int 4)] (dpCons (dpE (dV 2)) (dpCons (dpE (dV 8)) dpNil))))
    dNx)
    b_law_L2_4)
def b_law_L2_2 : DS :=
    (dSeq (dSetO 9 (dLstF (dCons (dCallN 3 d_stand_ads [] (dpCons (dpE (dV 2)) (dpCons (dpE (dV 8)) (dpCons (dpE (dV 6)) dpNil)))) (dCons (dCallKN 3 0 3 d_stand_ads (pickL [.fr (.int 4)] [.z 2, .z 1, .z 0]) dpNil (dpCons (dpE (dV 6)) (dpCons (dpE (dV 8)) (dpCons (dpE (dV 2)) dpNil)))) dNil))))
    b_law_L2_3)
def b_law_L2_1 : DS :=
    (dSeq (dSet 8 (dCall (c1 gList) (dCons (dV 4) dNil)))
    b_law_L2_2)
def b_law_L2 : DS :=
    (dSeq (dSet 7 (dSl gSlT (dCallN 3 d__law_stood [] (dpCons (dpE (dV 2)) (dpCons (dpE (dV 4)) (dpCons (dpE (dV 6)) dpNil)))) dNoP (dPart (dC (.int 2)))))
    b_law_L2_1)
def b_law_L1_1 : DS :=
    (dFor (dIList (dLst (dCons (dV 5) (dCons (dV 5) (dCons (dC (.int 4)) dNil))))) (.nm 6)
    b_law_L2)
def b_law_L1 : DS :=
    (dSeq (dSet 5 (dCallN 2 d__law_draw [] (dpCons (dpT 1) (dpCons (dpE (dC (.int 7))) dpNil))))
    b_law_L1_1)
def b_law_4 : DS :=
    (dRet (dOpV gEqD (dCallN 3 d_stand_ads [.fr (.int 4)] (dpCons (dpE (dV 2)) (dpCons (dpE (dLst dNil)) dpNil))) (dTup (dCons (dLst dNil) (dCons (dLst dNil) dNil)))))
def b_law_3 : DS :=
    (dSeq (dFor (dIList (dLst (dCons (dV 3) (dCons (dUn gRevL (dV 3)) (dCons (dOp gCat (dSl gSlL (dV 3) dNoP (dPart (dC (.int 3)))) (dSl gSlL (dV 3) dNoP (dPart (dC (.int 2))))) dNil))))) (.nm 4)
    b_law_L1)
    b_law_4)
def b_law_2 : DS :=
    (dSeq (dSet 3 (dCallN 3 d__law_ads [] (dpCons (dpT 1) (dpCons (dpE (dV 2)) (dpCons (dpE (dC (.int 8))) dpNil)))))
    b_law_3)
def b_law_1 : DS :=
    (dSeq (dSet 2 (dCallN 1 d__law_form [] (dpCons (dpT 1) dpNil)))
    b_law_2)
def b_law : DS :=
    (dSeq (dMkT 1 0)
    b_law_1)
end
end Nk22
set_option Elab.async false
set_option linter.all false
set_option maxRecDepth 100000
set_option maxHeartbeats 4000000
namespace Nk22
open PySem L2 Np
def top (i : Nat) : Stmt := PySem.Challenge.pw_nightpaper_k22_advertisements_stood.main.body.getD i (.Pass ⟨0, 0, 0, 0⟩)
abbrev s__wall : Stmt := top 0
abbrev ps__wall : List Str := ["k"]
abbrev s_UnlikeD_initD : Stmt := inClass (top 3) 0
abbrev nm_UnlikeD_initD : List Str := ["self", "one", "other"]
abbrev ps_UnlikeD_initD : List Str := ["self", "one", "other"]
abbrev s_BlockD_initD : Stmt := inClass (top 5) 0
abbrev nm_BlockD_initD : List Str := ["self", "rows", "wide", "row"]
abbrev ps_BlockD_initD : List Str := ["self", "rows", "wide"]
abbrev s_BlockD_lenD : Stmt := inClass (top 5) 1
abbrev nm_BlockD_lenD : List Str := ["self"]
abbrev ps_BlockD_lenD : List Str := ["self"]
abbrev s_Block_lines : Stmt := inClass (top 5) 5
abbrev nm_Block_lines : List Str := ["self"]
abbrev ps_Block_lines : List Str := ["self"]
abbrev s_framed : Stmt := top 6
abbrev nm_framed : List Str := ["block", "edge", "rows", "row"]
abbrev ps_framed : List Str := ["block"]
abbrev s_parted : Stmt := top 8
abbrev nm_parted : List Str := ["word", "wide", "found"]
abbrev ps_parted : List Str := ["word", "wide"]
abbrev s_words_of : Stmt := top 9
abbrev nm_words_of : List Str := ["paragraph", "word"]
abbrev ps_words_of : List Str := ["paragraph"]
abbrev s_filled : Stmt := top 10
abbrev nm_filled : List Str := ["words", "wide", "rows", "room", "word"]
abbrev ps_filled : List Str := ["words", "wide"]
abbrev s_spread : Stmt := top 11
abbrev nm_spread : List Str := ["words", "wide", "places", "each", "more", "word", "row", "at"]
abbrev ps_spread : List Str := ["words", "wide"]
abbrev s_paragraph_rows : Stmt := top 12
abbrev nm_paragraph_rows : List Str := ["words", "wide", "full", "parts", "word", "rows", "found", "row"]
abbrev ps_paragraph_rows : List Str := ["words", "wide", "full"]
abbrev s_set_rows : Stmt := top 13
abbrev nm_set_rows : List Str := ["text", "wide", "full", "gap", "found", "paragraph", "words", "turn"]
abbrev ps_set_rows : List Str := ["text", "wide", "full", "gap"]
abbrev s_wide_of : Stmt := top 17
abbrev nm_wide_of : List Str := ["form", "span"]
abbrev ps_wide_of : List Str := ["form", "span"]
abbrev s_ad_block : Stmt := top 18
abbrev nm_ad_block : List Str := ["form", "ad", "name", "span", "words", "inner"]
abbrev ps_ad_block : List Str := ["form", "ad"]
abbrev s_StandD_initD : Stmt := inClass (top 19) 0
abbrev nm_StandD_initD : List Str := ["self", "form", "keep"]
abbrev ps_StandD_initD : List Str := ["self", "form", "keep"]
abbrev s_Stand_top_over : Stmt := inClass (top 19) 1
abbrev nm_Stand_top_over : List Str := ["self", "begin", "span"]
abbrev ps_Stand_top_over : List Str := ["self", "begin", "span"]
abbrev s_Stand_lowest : Stmt := inClass (top 19) 2
abbrev nm_Stand_lowest : List Str := ["self", "span", "begins", "begin"]
abbrev ps_Stand_lowest : List Str := ["self", "span"]
abbrev s_Stand_put : Stmt := inClass (top 19) 3
abbrev nm_Stand_put : List Str := ["self", "ad", "name", "span", "words", "block", "high", "begin", "top", "column"]
abbrev ps_Stand_put : List Str := ["self", "ad"]
abbrev s_stood : Stmt := top 20
abbrev nm_stood : List Str := ["form", "ads", "keep", "found", "ad"]
abbrev ps_stood : List Str := ["form", "ads", "keep"]
abbrev s_stand_ads : Stmt := top 21
abbrev nm_stand_ads : List Str := ["form", "ads", "keep", "found"]
abbrev ps_stand_ads : List Str := ["form", "ads", "keep"]
abbrev s__law_feed : Stmt := top 23
abbrev nm__law_feed : List Str := ["_law_script"]
abbrev ps__law_feed : List Str := ["_law_script"]
abbrev s__law_draw : Stmt := top 24
abbrev nm__law_draw : List Str := ["_law_feed_here", "_law_many", "_law_got", "_law_at", "_law_cell", "_law_numbered"]
abbrev ps__law_draw : List Str := ["_law_feed_here", "_law_many"]
abbrev s__law_names : Stmt := top 25
abbrev nm__law_names : List Str := ["_law_feed_here", "_law_many", "_law_some", "_law_begin", "_law_step", "_law_k"]
abbrev ps__law_names : List Str := ["_law_feed_here", "_law_many"]
abbrev s__law_word : Stmt := top 26
abbrev nm__law_word : List Str := ["_law_feed_here", "_law_far", "_law_signs", "_law_many", "_law_at", "_law_step", "_law_k"]
abbrev ps__law_word : List Str := ["_law_feed_here", "_law_far"]
abbrev s__law_text : Stmt := top 27
abbrev nm__law_text : List Str := ["_law_feed_here", "_law_many", "_law_breaks", "_law_one_text", "_law_k", "_law_gap"]
abbrev ps__law_text : List Str := ["_law_feed_here", "_law_many", "_law_breaks"]
abbrev s__law_form : Stmt := top 28
abbrev nm__law_form : List Str := ["_law_feed_here", "_law_lanes", "_law_deep"]
abbrev ps__law_form : List Str := ["_law_feed_here"]
abbrev s__law_ad : Stmt := top 29
abbrev nm__law_ad : List Str := ["_law_feed_here", "_law_plan", "_law_called", "_law_many", "_law_words"]
abbrev ps__law_ad : List Str := ["_law_feed_here", "_law_plan", "_law_called"]
abbrev s__law_ads : Stmt := top 30
abbrev nm__law_ads : List Str := ["_law_feed_here", "_law_plan", "_law_at_most", "_law_names_here", "_law_found", "_law_k"]
abbrev ps__law_ads : List Str := ["_law_feed_here", "_law_plan", "_law_at_most"]
abbrev s__law_ad_rows : Stmt := top 31
abbrev nm__law_ad_rows : List Str := ["_law_plan", "_law_notice", "_law_across", "_law_lines_told", "_law_row"]
abbrev ps__law_ad_rows : List Str := ["_law_plan", "_law_notice"]
abbrev s__law_stood : Stmt := top 32
abbrev nm__law_stood : List Str := ["_law_plan", "_law_notices", "_law_kept_rows", "_law_tops", "_law_places", "_law_missed", "_law_left", "_law_notice", "_law_high", "_law_begins", "_law_k", "_law_top", "_law_at"]
abbrev ps__law_stood : List Str := ["_law_plan", "_law_notices", "_law_kept_rows"]
abbrev s_law : Stmt := top 33
abbrev nm_law : List Str := ["_law_script", "_law_feed_here", "_law_plan", "_law_notices", "_law_some", "_law_kept_rows", "_law_told", "_law_due", "_law_handed", "_law_found", "_law_one"]
abbrev ps_law : List Str := ["_law_script"]
theorem sc_UnlikeD_initD : FnScope nm_UnlikeD_initD ps_UnlikeD_initD (defScope s_UnlikeD_initD) := ⟨rfl, rfl, rfl, by decide +kernel, rfl, by decide +kernel, by decide +kernel⟩
theorem sc_BlockD_initD : FnScope nm_BlockD_initD ps_BlockD_initD (defScope s_BlockD_initD) := ⟨rfl, rfl, rfl, by decide +kernel, rfl, by decide +kernel, by decide +kernel⟩
theorem sc_BlockD_lenD : FnScope nm_BlockD_lenD ps_BlockD_lenD (defScope s_BlockD_lenD) := ⟨rfl, rfl, rfl, by decide +kernel, rfl, by decide +kernel, by decide +kernel⟩
theorem sc_Block_lines : FnScope nm_Block_lines ps_Block_lines (defScope s_Block_lines) := ⟨rfl, rfl, rfl, by decide +kernel, rfl, by decide +kernel, by decide +kernel⟩
theorem sc_framed : FnScope nm_framed ps_framed (defScope s_framed) := ⟨rfl, rfl, rfl, by decide +kernel, rfl, by decide +kernel, by decide +kernel⟩
theorem sc_parted : FnScope nm_parted ps_parted (defScope s_parted) := ⟨rfl, rfl, rfl, by decide +kernel, rfl, by decide +kernel, by decide +kernel⟩
theorem sc_words_of : FnScope nm_words_of ps_words_of (defScope s_words_of) := ⟨rfl, rfl, rfl, by decide +kernel, rfl, by decide +kernel, by decide +kernel⟩
theorem sc_filled : FnScope nm_filled ps_filled (defScope s_filled) := ⟨rfl, rfl, rfl, by decide +kernel, rfl, by decide +kernel, by decide +kernel⟩
theorem sc_spread : FnScope nm_spread ps_spread (defScope s_spread) := ⟨rfl, rfl, rfl, by decide +kernel, rfl, by decide +kernel, by decide +kernel⟩
theorem sc_paragraph_rows : FnScope nm_paragraph_rows ps_paragraph_rows (defScope s_paragraph_rows) := ⟨rfl, rfl, rfl, by decide +kernel, rfl, by decide +kernel, by decide +kernel⟩
theorem sc_set_rows : FnScope nm_set_rows ps_set_rows (defScope s_set_rows) := ⟨rfl, rfl, rfl, by decide +kernel, rfl, by decide +kernel, by decide +kernel⟩
theorem sc_wide_of : FnScope nm_wide_of ps_wide_of (defScope s_wide_of) := ⟨rfl, rfl, rfl, by decide +kernel, rfl, by decide +kernel, by decide +kernel⟩
theorem sc_ad_block : FnScope nm_ad_block ps_ad_block (defScope s_ad_block) := ⟨rfl, rfl, rfl, by decide +kernel, rfl, by decide +kernel, by decide +kernel⟩
theorem sc_StandD_initD : FnScope nm_StandD_initD ps_StandD_initD (defScope s_StandD_initD) := ⟨rfl, rfl, rfl, by decide +kernel, rfl, by decide +kernel, by decide +kernel⟩
theorem sc_Stand_top_over : FnScope nm_Stand_top_over ps_Stand_top_over (defScope s_Stand_top_over) := ⟨rfl, rfl, rfl, by decide +kernel, rfl, by decide +kernel, by decide +kernel⟩
theorem sc_Stand_lowest : FnScope nm_Stand_lowest ps_Stand_lowest (defScope s_Stand_lowest) := ⟨rfl, rfl, rfl, by decide +kernel, rfl, by decide +kernel, by decide +kernel⟩
theorem sc_Stand_put : FnScope nm_Stand_put ps_Stand_put (defScope s_Stand_put) := ⟨rfl, rfl, rfl, by decide +kernel, rfl, by decide +kernel, by decide +kernel⟩
theorem sc_stood : FnScope nm_stood ps_stood (defScope s_stood) := ⟨rfl, rfl, rfl, by decide +kernel, rfl, by decide +kernel, by decide +kernel⟩
theorem sc_stand_ads : FnScope nm_stand_ads ps_stand_ads (defScope s_stand_ads) := ⟨rfl, rfl, rfl, by decide +kernel, rfl, by decide +kernel, by decide +kernel⟩
theorem sc__law_feed : FnScope nm__law_feed ps__law_feed (defScope s__law_feed) := ⟨rfl, rfl, rfl, by decide +kernel, rfl, by decide +kernel, by decide +kernel⟩
theorem sc__law_draw : FnScope nm__law_draw ps__law_draw (defScope s__law_draw) := ⟨rfl, rfl, rfl, by decide +kernel, rfl, by decide +kernel, by decide +kernel⟩
theorem sc__law_names : FnScope nm__law_names ps__law_names (defScope s__law_names) := ⟨rfl, rfl, rfl, by decide +kernel, rfl, by decide +kernel, by decide +kernel⟩
theorem sc__law_word : FnScope nm__law_word ps__law_word (defScope s__law_word) := ⟨rfl, rfl, rfl, by decide +kernel, rfl, by decide +kernel, by decide +kernel⟩
theorem sc__law_text : FnScope nm__law_text ps__law_text (defScope s__law_text) := ⟨rfl, rfl, rfl, by decide +kernel, rfl, by decide +kernel, by decide +kernel⟩
theorem sc__law_form : FnScope nm__law_form ps__law_form (defScope s__law_form) := ⟨rfl, rfl, rfl, by decide +kernel, rfl, by decide +kernel, by decide +kernel⟩
theorem sc__law_ad : FnScope nm__law_ad ps__law_ad (defScope s__law_ad) := ⟨rfl, rfl, rfl, by decide +kernel, rfl, by decide +kernel, by decide +kernel⟩
theorem sc__law_ads : FnScope nm__law_ads ps__law_ads (defScope s__law_ads) := ⟨rfl, rfl, rfl, by decide +kernel, rfl, by decide +kernel, by decide +kernel⟩
theorem sc__law_ad_rows : FnScope nm__law_ad_rows ps__law_ad_rows (defScope s__law_ad_rows) := ⟨rfl, rfl, rfl, by decide +kernel, rfl, by decide +kernel, by decide +kernel⟩
theorem sc__law_stood : FnScope nm__law_stood ps__law_stood (defScope s__law_stood) := ⟨rfl, rfl, rfl, by decide +kernel, rfl, by decide +kernel, by decide +kernel⟩
theorem sc_law : FnScope nm_law ps_law (defScope s_law) := ⟨rfl, rfl, rfl, by decide +kernel, rfl, by decide +kernel, by decide +kernel⟩
structure Ad where
  NightError : Addr
  Unlike : Addr
  Block : Addr
  Stand : Addr
  P_Stand_lowest : Addr
  Q_Stand_lowest : Addr
  cm : CM
structure Txt (K : PySem.W.Frag) (mg : Str → Option Value) (c : Ad) : Prop where
  b_divmod : mg "divmod" = none
  b_enumerate : mg "enumerate" = none
  b_int : mg "int" = none
  b_isinstance : mg "isinstance" = none
  b_len : mg "len" = none
  b_list : mg "list" = none
  b_max : mg "max" = none
  b_min : mg "min" = none
  b_range : mg "range" = none
  b_repr : mg "repr" = none
  b_sum : mg "sum" = none
  g_BETWEEN : Glb mg "BETWEEN" (.int 3)
  g_EDGES : Glb mg "EDGES" (.int 4)
  g_NightError : mg "NightError" = some (.ref c.NightError)
  g_Unlike : mg "Unlike" = some (.ref c.Unlike)
  g_Block : mg "Block" = some (.ref c.Block)
  g_Stand : mg "Stand" = some (.ref c.Stand)
  bas_NightError : BaseC K mg "NightError" c.NightError
  oex_Unlike : OexC K c.Unlike
  exc_Unlike : ExcC K c.Unlike
  no_Unlike_one : PySem.W.findIn K (.ref c.Unlike) "one" = some none
  no_Unlike_other : PySem.W.findIn K (.ref c.Unlike) "other" = some none
  cm_Unlike : c.cm "Unlike" = c.Unlike
  cm_Block : c.cm "Block" = c.Block
  cls_Block : Cls K c.Block
  no_Block_kept : NoAttr K c.Block "kept"
  no_Block_wide : NoAttr K c.Block "wide"
  cm_Stand : c.cm "Stand" = c.Stand
  cls_Stand : Cls K c.Stand
  no_Stand_form : NoAttr K c.Stand "form"
  no_Stand_keep : NoAttr K c.Stand "keep"
  no_Stand_tops : NoAttr K c.Stand "tops"
  no_Stand_spots : NoAttr K c.Stand "spots"
  no_Stand_blocks : NoAttr K c.Stand "blocks"
  no_Stand_unstood : NoAttr K c.Stand "unstood"
theorem ok_UnlikeD_initD {P : Program} {w : World} {K : PySem.W.Frag} {mg : Str → Option Value} {base : Heap} {c : Ad} {f : Addr} {fd : FuncData} (T : Txt K mg c) (F : Fun K "__init__" "Unlike.__init__" s_UnlikeD_initD f fd) : FnOk P w K mg base CX0 1 f fd ps_UnlikeD_initD (spInit c.Unlike ["one", "other"]) := by
  refine F.ok sc_UnlikeD_initD (fun vs H Q E h => ?_) (fun cdv A outer s H vs Q E hr h => ?_)
  · obtain ⟨a, ws, rfl, hl, _⟩ := h
    exact congrArg Nat.succ hl
  · obtain ⟨a, ws, rfl, hl, ha, k⟩ := h
    obtain ⟨w0, w1, rfl⟩ : ∃ w0 w1 : V, ws = [w0, w1] := by
      match ws, hl with
      | [w0, w1], _ => exact ⟨_, _, rfl⟩
    refine ⟨_, (pss_cons (ps_expr (pe_binit K T.bas_NightError (pa_cons (pv 0) (pa_cons pe_str pa_nil))))
      (pss_cons (ps_ost (pv 0) (pv 1))
      (pss_one (ps_ost (pv 0) (pv 2))))), ?_⟩
    refine ⟨_, rfl, a, _, [_], rfl, (by show 1 ≤ 1000; decide), T.oex_Unlike, ha, ?_⟩
    refine ⟨_, rfl, _, rfl, a, _, rfl, T.oex_Unlike, T.no_Unlike_one, .inl ⟨ha, fun d nd ne => ?_⟩⟩
    refine ⟨_, rfl, _, rfl, a, _, rfl, T.oex_Unlike, T.no_Unlike_other, .inr ⟨d, _, by first | exact upd_same | (rw [upd_ne (Ne.symm ne)]; exact upd_same), by first | exact upd_same | (rw [upd_ne ne]; exact upd_same), (by show 1 ≤ 900; decide), ?_⟩⟩
    refine k d _ nd ne ?_ ?_ (fun b h1 h2 => ?_)
    · rw [upd_ne (Ne.symm ne)]; exact upd_same
    · exact upd_same
    · rw [upd_ne h2, upd_ne h1, upd_ne h2]
end Nk22
set_option Elab.async false
set_option linter.all false
set_option maxRecDepth 100000
set_option maxHeartbeats 4000000
namespace Nk22
open PySem L2 Np
theorem draw_6 {n : Nat} {m T cell : Int} {t t0 : Tau} (h : Tn n t) (hm : 0 < m) (hT : 0 ≤ T ∧ T < 2 ^ 60) : ∃ r, eBody (b__law_draw_6 [some .tape, some (.fr (.int m)), none, some (.fr (.int T)), some (.fr (.int cell)), none] (some t)) (some t0) = .ok (.int r) (some t) ∧ 0 ≤ r ∧ r < m := by
  have c1 := Int.emod_nonneg cell (show (2147483647 : Int) ≠ 0 by decide)
  have c2 := Int.emod_lt_of_pos cell (show (0 : Int) < 2147483647 by decide)
  generalize hmx : (cell % 2147483647 + 7919 * T * T + 104729) * 48271 % 2147483647 = mix
  have d1 : 0 ≤ mix := by rw [← hmx]; exact Int.emod_nonneg _ (by omega)
  have d2 : mix < 2147483647 := by rw [← hmx]; exact Int.emod_lt_of_pos _ (by omega)
  generalize hm2 : (mix * mix + 69621 * T) % 2147483629 = mix2
  have d3 : 0 ≤ mix2 := by rw [← hm2]; exact Int.emod_nonneg _ (by omega)
  have d4 : mix2 < 2147483629 := by rw [← hm2]; exact Int.emod_lt_of_pos _ (by omega)
  have e1 := Int.emod_nonneg mix2 (show (65521 : Int) ≠ 0 by decide)
  have e2 := Int.emod_lt_of_pos mix2 (show (0 : Int) < 65521 by decide)
  generalize hm3 : mix2 % 65521 = mix3 at *
  have m1 : CMul 7919 T := .inl ⟨by decide, by decide⟩
  have m2 : CMul (7919 * T) T := .inr ⟨by omega, by omega⟩
  have m3 : CMul (cell % 2147483647 + 7919 * T * T + 104729) 48271 := .inr ⟨by decide, by decide⟩
  have m4 : CMul mix mix := .inl ⟨by omega, by omega⟩
  have m5 : CMul 69621 T := .inl ⟨by decide, by decide⟩
  have m6 : CMul mix2 (mix3 + 1) := .inl ⟨by omega, by omega⟩
  have m7 : CDiv (mix2 * (mix3 + 1) % 2147483587) 64 := ⟨by decide, by decide⟩
  refine ⟨mix2 * (mix3 + 1) % 2147483587 / 64 % m, ?_, Int.emod_nonneg _ (by omega), Int.emod_lt_of_pos _ hm⟩
  simp [b__law_draw_6, b__law_draw_7, b__law_draw_8, m1, m2, m3, m4, m5, m6, m7, hm, hmx, hm2, hm3]
theorem atI_intsD {ns : List Int} {i : Int} (h0 : 0 ≤ i) (h1 : i < ns.length) : ∃ v, atI (ns.map DD.int) i = some (.int v) := by
  obtain ⟨j, rfl⟩ := Int.eq_ofNat_of_zero_le h0
  have hj : j < ns.length := by omega
  exact ⟨ns[j], atI_nat (by rw [List.getElem?_map, List.getElem?_eq_getElem hj] <;> rfl)⟩
theorem draw_5 {n : Nat} {m T cell : Int} {t t0 : Tau} (h : Tn n t) (hm : 0 < m) (hmm : m < 1073741824) (hT : 0 ≤ T ∧ T < 2 ^ 60) : ∃ r t', eBody (b__law_draw_5 [some .tape, some (.fr (.int m)), none, some (.fr (.int T)), some (.fr (.int cell)), none] (some t)) (some t0) = .ok (.int r) (some t') ∧ 0 ≤ r ∧ r < m ∧ Tn n t' := by
  obtain ⟨r, e, r0, r1⟩ := draw_6 (t0 := t0) (cell := cell) h hm hT
  have dn : ∀ x, CDivN x m := fun x => ⟨by omega, by omega⟩
  have pw : CPow 10 18 := by decide
  by_cases h2 : (1000000000000000000 : Int) ≤ cell
  · by_cases h1 : T < t.cells.length
    · refine ⟨cell % m, { t with left := cell.fdiv m }, ?_, Int.emod_nonneg _ (by omega), Int.emod_lt_of_pos _ hm, h.a0, h.a1, ?_⟩
      · simp [b__law_draw_5, h1, h2, dn, pw, hm]
      · show 0 ≤ cell.fdiv m
        rw [Int.fdiv_eq_ediv_of_nonneg _ (by omega)]
        exact Int.ediv_nonneg (by omega) (by omega)
    · exact ⟨r, t, by simp [b__law_draw_5, h1, h2, pw, e], r0, r1, h⟩
  · exact ⟨r, t, by simp [b__law_draw_5, h2, pw, e], r0, r1, h⟩
theorem draw_ok {n : Nat} {m : Int} {t : Tau} (h : Tn n t) (hn : n < 2 ^ 59) (hm : 0 < m) (hmm : m < 1073741824) : ∃ r t', d__law_draw [.tape, .fr (.int m)] (some t) = .ok (.int r) (some t') ∧ 0 ≤ r ∧ r < m ∧ Tn (n + 1) t' := by
  obtain ⟨h0, h1, h2⟩ := h
  by_cases hl : 0 < t.left
  · have dn : CDivN t.left m := ⟨by omega, by omega⟩
    refine ⟨t.left % m, { t with left := t.left.fdiv m }, by simp [d__law_draw, b__law_draw, ev_body, startP, List.replicate, hl, hm, dn], Int.emod_nonneg _ (by omega), Int.emod_lt_of_pos _ hm, h0, by show t.at' ≤ _; omega, ?_⟩
    show 0 ≤ t.left.fdiv m
    rw [Int.fdiv_eq_ediv_of_nonneg _ (by omega)]
    exact Int.ediv_nonneg h2 (by omega)
  · have hT : Tn (n + 1) { t with at' := t.at' + 1 } := ⟨by show 0 ≤ t.at' + 1; omega, by show t.at' + 1 ≤ _; omega, h2⟩
    by_cases hp : 0 < t.cells.length
    · obtain ⟨v, hv⟩ := atI_intsD (ns := t.cells) (i := t.at' % t.cells.length) (Int.emod_nonneg _ (by omega)) (Int.emod_lt_of_pos _ (by omega))
      obtain ⟨r, t', e, q⟩ := draw_5 (t0 := t) (cell := v) (T := t.at') hT hm hmm ⟨h0, by omega⟩
      exact ⟨r, t', by simp [d__law_draw, b__law_draw, b__law_draw_1, b__law_draw_2, b__law_draw_3, b__law_draw_4, ev_body, startP, List.replicate, hl, hp, hv, e], q⟩
    · obtain ⟨r, t', e, q⟩ := draw_5 (t0 := t) (cell := t.at') (T := t.at') hT hm hmm ⟨h0, by omega⟩
      exact ⟨r, t', by simp [d__law_draw, b__law_draw, b__law_draw_1, b__law_draw_2, b__law_draw_3, b__law_draw_4, ev_body, startP, List.replicate, hl, hp, e], q⟩
theorem repl_S (l : List Nat) (c b : Nat) : Txt.replace (S l) (S [c]) (S [b]) = S (joinL [b] (splitL c l)) := by
  have e := StrLaws.replace_one (S l) (S [b]) c
  rw [show (⟨#[c]⟩ : PySem.Str) = S [c] from rfl] at e
  rw [e, split_S]
  have j := join_l (S [b]) ((splitL c l).map S)
  rw [S_l, List.map_map] at j
  have k : ((splitL c l).map ((fun z : PySem.Str => z.cps.toList) ∘ S)) = splitL c l := by
    conv => rhs; rw [← List.map_id (splitL c l)]
    exact List.map_congr_left fun p _ => S_l p
  rw [k] at j
  rw [S_of (Str.join (S [b]) ((splitL c l).map S)), j]
theorem joinL_len (s : List Nat) : ∀ ps : List (List Nat), (joinL s ps).length ≤ (ps.map (·.length)).sum + ps.length * s.length
  | [] => by simp [joinL]
  | [x] => by simp [joinL]
  | x :: y :: r => by
    have ih := joinL_len s (y :: r)
    have e : joinL s (x :: y :: r) = x ++ s ++ joinL s (y :: r) := rfl
    rw [e]
    simp only [List.map_cons, List.sum_cons, List.length_append, List.length_cons, Nat.succ_mul] at ih ⊢
    omega
theorem repl_len (l : List Nat) (c b : Nat) : (joinL [b] (splitL c l)).length ≤ l.length + 1 := by
  have h := joinL_len [b] (splitL c l)
  have k := split_weight' c l
  simp only [List.length_singleton, Nat.mul_one] at h
  omega
theorem repl_cp {l : List Nat} {c b : Nat} (h : Cp l) (hb : b < 1114112) : Cp (joinL [b] (splitL c l)) := Cp.join (Cp.cons hb Cp.nil) (splitL_cp c h)
def WG : List Nat := (Str.ofString "abcdefghijklmnopqrstuvwxyzABCDEFGHIJKLMNOPQRSTUVWXYZ0123456789.,;:!?'\"()[]<>/\\|@#$^&*_=+~`-").cps.toList
theorem WG_eq : Str.ofString "abcdefghijklmnopqrstuvwxyzABCDEFGHIJKLMNOPQRSTUVWXYZ0123456789.,;:!?'\"()[]<>/\\|@#$^&*_=+~`-" = S WG := S_of _
theorem WG_len : WG.length = 91 := by decide +kernel
theorem WG_ok : ∀ c ∈ WG, c < 1114112 := by decide +kernel
theorem wg_get {r : Int} (h0 : 0 ≤ r) (h1 : r < 91) : ∃ c, atI WG r = some c ∧ c < 1114112 := by
  obtain ⟨j, rfl⟩ := Int.eq_ofNat_of_zero_le h0
  have hj : j < WG.length := by rw [WG_len]; omega
  exact ⟨WG[j], atI_nat (List.getElem?_eq_getElem hj), WG_ok _ (List.getElem_mem hj)⟩
theorem lit_emp : (Str.ofString "") = S [] := by decide +kernel
theorem word_ok {n : Nat} {t : Tau} (h : Tn n t) (hn : n < 2 ^ 51) : ∃ x t', d__law_word [.tape, .fr (.int 45)] (some t) = .ok (.str (S x)) (some t') ∧ x.length ≤ 45 ∧ Cp x ∧ Tn (n + 4) t' := by
  obtain ⟨r1, t1, e1, a1, b1, T1⟩ := draw_ok h (by omega) (m := 3) (by decide) (by decide)
  obtain ⟨m, hm, m0, m1⟩ : ∃ m : Int, atI [DD.int 4, DD.int 7, DD.int 45] r1 = some (.int m) ∧ 0 < m ∧ m ≤ 45 := by
    have : r1 = 0 ∨ r1 = 1 ∨ r1 = 2 := by omega
    rcases this with rfl | rfl | rfl
    · exact ⟨4, by simp, by decide, by decide⟩
    · exact ⟨7, by simp, by decide, by decide⟩
    · exact ⟨45, by simp, by decide, by decide⟩
  obtain ⟨r2, t2, e2, a2, b2, T2⟩ := draw_ok T1 (by omega) (m := m) m0 (by omega)
  obtain ⟨r3, t3, e3, a3, b3, T3⟩ := draw_ok T2 (by omega) (m := 91) (by decide) (by decide)
  obtain ⟨r4, t4, e4, a4, b4, T4⟩ := draw_ok T3 (by omega) (m := 5) (by decide) (by decide)
  obtain ⟨st, hs, s0, s1⟩ : ∃ m : Int, atI [DD.int 1, DD.int 5, DD.int 11, DD.int 29, DD.int 90] r4 = some (.int m) ∧ 0 < m ∧ m ≤ 90 := by
    have : r4 = 0 ∨ r4 = 1 ∨ r4 = 2 ∨ r4 = 3 ∨ r4 = 4 := by omega
    rcases this with rfl | rfl | rfl | rfl | rfl
    · exact ⟨1, by simp, by decide, by decide⟩
    · exact ⟨5, by simp, by decide, by decide⟩
    · exact ⟨11, by simp, by decide, by decide⟩
    · exact ⟨29, by simp, by decide, by decide⟩
    · exact ⟨90, by simp, by decide, by decide⟩
  obtain ⟨m2, rfl⟩ := Int.eq_ofNat_of_zero_le a2
  have el : ∀ k : Nat, k < 46 → ∃ c, atI WG ((r3 + st * (k : Int)) % 91) = some c ∧ c < 1114112 := fun k _ => wg_get (Int.emod_nonneg _ (by decide)) (Int.emod_lt_of_pos _ (by decide))
  obtain ⟨ys, τ5, e5, ly, py, hτ⟩ := lcL_draw (t := .nm 6) (a := dOp gIxS (dV 2) (dOp gMod (dOp gAdd (dV 4) (dOp gMul (dV 5) (dV 6))) (dC (.int 91)))) (ρ := [some .tape, some (.fr (.int 45)), some (.fr (.str (S WG))), some (.fr (.int (1 + (m2 : Int)))), some (.fr (.int r3)), some (.fr (.int st)), none]) (fun y => ∃ c, y = DD.str (S [c]) ∧ c < 1114112) (fun _ τ => τ = some t4) (rangeD 0 (1 + m2)) 0 (some t4) rfl (by
      rintro j d τ hj hd rfl
      obtain ⟨k, hk, e⟩ := List.getElem_of_mem hd
      have hd2 : (rangeD 0 (1 + m2))[k]? = some d := by rw [List.getElem?_eq_getElem hk, e]
      obtain ⟨hk2, rfl⟩ := rangeD_get0 hd2
      obtain ⟨c, hc, hc2⟩ := el k (by omega)
      have cm : CMul st (k : Int) := .inl ⟨by omega, by omega⟩
      exact ⟨_, tgF_nm, .str (S [c]), some t4, by simp (disch := first | omega | (simp <;> omega) | fail) [if_pos, cm, hc, S_one, WG_len], ⟨c, rfl, hc2⟩, rfl⟩)
  obtain ⟨cs, rfl, hcs⟩ := all_signs py
  rw [List.length_map, rangeD_len] at ly
  rw [hτ] at e5
  have jn := join_signs (cs := cs) (by omega)
  have tn : (1 + (m2 : Int)).toNat = 1 + m2 := by omega
  refine ⟨cs, t4, ?_, by omega, hcs, T4.mono (by omega)⟩
  simp (disch := first | omega | (simp <;> omega) | fail) [if_pos, d__law_word, b__law_word, b__law_word_1, b__law_word_2, b__law_word_3, ev_body, startP, List.replicate, WG_eq, e1, hm, e2, e3, e4, hs, e5, tn, lit_emp, jn]
theorem at_str (ss : List PySem.Str) {xs : List DD} {ys : List (List Nat)} (hx : xs = ss.map DD.str) (h : (ss.map fun s => s.cps.toList) = ys) {r : Int} (h0 : 0 ≤ r) (h1 : r < ys.length) : ∃ y ∈ ys, atI xs r = some (.str (S y)) := by
  obtain ⟨j, rfl⟩ := Int.eq_ofNat_of_zero_le h0
  have hl : ss.length = ys.length := by rw [← h, List.length_map]
  have hj : j < ss.length := by omega
  refine ⟨ss[j].cps.toList, by rw [← h]; exact List.mem_map.mpr ⟨_, List.getElem_mem hj, rfl⟩, ?_⟩
  rw [atI_nat (v := DD.str ss[j]) (by rw [hx, List.getElem?_map, List.getElem?_eq_getElem hj]; rfl), ← S_of]
theorem text_turn {n : Nat} {l : List Nat} {t : Tau} (h : Tn n t) (hn : n < 2 ^ 50) (hl : l.length ≤ 10000) (hc : Cp l) {o1 o4 o5 : Option PV} :
    ∃ x t' q5, b__law_text_L1 [some .tape, o1, some (.fr (.bl true)), some (.fr (.str (S l))), o4, o5] (some t) = .ok (.nx [some .tape, o1, some (.fr (.bl true)), some (.fr (.str (S x))), o4, q5]) (some t') ∧ x.length ≤ l.length + 48 ∧ Cp x ∧ Tn (n + 5) t' := by
  obtain ⟨r1, t1, e1, a1, b1, T1⟩ := draw_ok h (by omega) (m := 8) (by decide) (by decide)
  obtain ⟨z, hz, ez⟩ := at_str [Str.ofString " ", Str.ofString " ", Str.ofString " ", Str.ofString " ", Str.ofString "  ", Str.ofString "\n", Str.ofString "\n\n", Str.ofString " \n "] (xs := [.str (Str.ofString " "), .str (Str.ofString " "), .str (Str.ofString " "), .str (Str.ofString " "), .str (Str.ofString "  "), .str (Str.ofString "\n"), .str (Str.ofString "\n\n"), .str (Str.ofString " \n ")]) (ys := [[32], [32], [32], [32], [32, 32], [10], [10, 10], [32, 10, 32]]) rfl (by decide +kernel) a1 b1
  have zz : z.length ≤ 3 ∧ Cp z := by
    have : ∀ z ∈ ([[32], [32], [32], [32], [32, 32], [10], [10, 10], [32, 10, 32]] : List (List Nat)), z.length ≤ 3 ∧ ∀ c ∈ z, c < 1114112 := by decide
    exact this z hz
  obtain ⟨x, t2, e2, l2, c2, T2⟩ := word_ok T1 (by omega)
  have hz3 := zz.1
  by_cases q : l = []
  · subst q
    refine ⟨x, t2, some (.fr (.str (S z))), ?_, by simp; omega, c2, T2.mono (by omega)⟩
    simp (disch := first | omega | (simp <;> omega) | fail) [if_pos, b__law_text_L1, b__law_text_L1_1, e1, ez, e2, lit_emp]
  · refine ⟨l ++ (z ++ x), t2, some (.fr (.str (S z))), ?_, by simp; omega, hc.app (zz.2.app c2), T2.mono (by omega)⟩
    simp (disch := first | omega | (simp <;> omega) | fail) [if_pos, b__law_text_L1, b__law_text_L1_1, e1, ez, e2, lit_emp, q]
theorem text_ok {n m : Nat} {t : Tau} (h : Tn n t) (hn : n < 2 ^ 48) (hm : m ≤ 100) : ∃ x t', d__law_text [.tape, .fr (.int (m : Int)), .fr (.bl true)] (some t) = .ok (.str (S x)) (some t') ∧ x.length ≤ 48 * m ∧ Cp x ∧ Tn (n + 5 * m) t' := by
  obtain ⟨ρ2, τ2, e2, x, t2, q4, q5, rfl, rfl, hl, hc, T2⟩ := forL_inv (t := .nm 4) (δ := b__law_text_L1) (ds := rangeD 0 m) (ρ := [some .tape, some (.fr (.int (m : Int))), some (.fr (.bl true)), some (.fr (.str (S []))), none, none]) (τ := some t)
    (fun i ρ τ => ∃ x t' q4 q5, ρ = [some .tape, some (.fr (.int (m : Int))), some (.fr (.bl true)), some (.fr (.str (S x))), q4, q5] ∧ τ = some t' ∧ x.length ≤ 48 * i ∧ Cp x ∧ Tn (n + 5 * i) t')
    ⟨[], t, none, none, rfl, rfl, by simp, Cp.nil, by simpa using h⟩ (by
      rintro i d ρ τ hd ⟨x, t', q4, q5, rfl, rfl, hl, hc, T⟩
      obtain ⟨hi, rfl⟩ := rangeD_get0 hd
      obtain ⟨y, t2, p5, e, hy, cy, T'⟩ := text_turn (l := x) T (by omega) (by omega) hc (o1 := some (.fr (.int (m : Int)))) (o4 := some (.fr (.int (i : Int)))) (o5 := q5)
      exact ⟨_, tgF_nm, _, _, .inl e, y, t2, _, _, rfl, rfl, by omega, cy, T'.mono (by omega)⟩)
  rw [rangeD_len] at hl T2
  refine ⟨x, t2, ?_, hl, hc, T2⟩
  simp (disch := first | omega | (simp <;> omega) | fail) [if_pos, d__law_text, b__law_text, b__law_text_1, b__law_text_2, ev_body, startP, List.replicate, lit_emp, e2]
theorem ad_words {n m : Nat} {t : Tau} (h : Tn n t) (hn : n < 2 ^ 40) (hm : m ≤ 40) : ∃ x t', d__law_text [.tape, .fr (.int (m : Int)), .fr (.bl true)] (some t) = .ok (.str (S x)) (some t') ∧ x.length ≤ 1920 ∧ Cp x ∧ Tn (n + 200) t' := by
  obtain ⟨x, t', e, l, c, T⟩ := text_ok (m := m) h (by omega) (by omega)
  exact ⟨x, t', e, by omega, c, T.mono (by omega)⟩
theorem lit_lt : (Str.ofString "<") = S [60] := by decide +kernel
theorem lit_gt : (Str.ofString ">") = S [62] := by decide +kernel
theorem lit_lb : (Str.ofString "{") = S [123] := by decide +kernel
theorem lit_rb : (Str.ofString "}") = S [125] := by decide +kernel
theorem ad_ok {n a : Nat} {t : Tau} {nm p1 p2 : DD} (h : Tn n t) (hn : n < 2 ^ 39) (ha : 1 ≤ a) (ha2 : a ≤ 6) : ∃ (s : Nat) (x : List Nat) (t' : Tau), d__law_ad [.tape, .fr (.tup [.int (a : Int), p1, p2]), .fr nm] (some t) = .ok (.tup [nm, .int (s : Int), .str (S x)]) (some t') ∧ 1 ≤ s ∧ s ≤ a ∧ x.length ≤ 1930 ∧ Cp x ∧ Tn (n + 210) t' := by
  obtain ⟨r1, t1, e1, a1, b1, T1⟩ := draw_ok h (by omega) (m := 3) (by decide) (by decide)
  obtain ⟨m, hm, m0, m1⟩ : ∃ m : Int, atI [DD.int 3, DD.int 9, DD.int 40] r1 = some (.int m) ∧ 0 < m ∧ m ≤ 40 := by
    have : r1 = 0 ∨ r1 = 1 ∨ r1 = 2 := by omega
    rcases this with rfl | rfl | rfl
    · exact ⟨3, by simp, by decide, by decide⟩
    · exact ⟨9, by simp, by decide, by decide⟩
    · exact ⟨40, by simp, by decide, by decide⟩
  obtain ⟨r2, t2, e2, a2, b2, T2⟩ := draw_ok T1 (by omega) (m := m) m0 (by omega)
  obtain ⟨m2, rfl⟩ := Int.eq_ofNat_of_zero_le a2
  obtain ⟨x, t3, e3, l3, c3, T3⟩ := ad_words (m := m2) T2 (by omega) (by omega)
  obtain ⟨r4, t4, e4, a4, b4, T4⟩ := draw_ok T3 (by omega) (m := (a : Int)) (by omega) (by omega)
  obtain ⟨m4, rfl⟩ := Int.eq_ofNat_of_zero_le a4
  have q1 := repl_len x 60 123
  have q2 := repl_len (joinL [123] (splitL 60 x)) 62 125
  have k1 := repl_S x 60 123
  have k2 := repl_S (joinL [123] (splitL 60 x)) 62 125
  have cc := repl_cp (c := 62) (b := 125) (repl_cp (c := 60) (b := 123) c3 (by decide)) (by decide)
  generalize joinL [123] (splitL 60 x) = y at *
  generalize joinL [125] (splitL 62 y) = z at *
  refine ⟨1 + m4, z, t4, ?_, by omega, by omega, by omega, cc, T4.mono (by omega)⟩
  simp (disch := first | omega | (simp <;> omega) | fail) [if_pos, d__law_ad, b__law_ad, b__law_ad_1, b__law_ad_2, ev_body, startP, List.replicate, e1, hm, e2, e3, lit_lt, lit_gt, lit_lb, lit_rb, k1, k2, e4]
theorem lit_dash : Str.ofString "-" = S [45] := by decide +kernel
theorem lit_sp : Str.ofString " " = S [32] := by decide +kernel
theorem lit_nl : Str.ofString "\n" = S [10] := by decide +kernel
def partL (w : Nat) (l : List Nat) : List (List Nat) := if w < l.length ∧ 2 ≤ w then (l.take (w - 1) ++ [45]) :: partL w (l.drop (w - 1)) else [l]
termination_by l.length
decreasing_by simp; omega
theorem partL_lt {w : Nat} {l : List Nat} (h : w < l.length) (hw : 2 ≤ w) : partL w l = (l.take (w - 1) ++ [45]) :: partL w (l.drop (w - 1)) := by
  rw [partL, if_pos ⟨h, hw⟩]
theorem partL_ge {w : Nat} {l : List Nat} (h : ¬ w < l.length) : partL w l = [l] := by
  rw [partL, if_neg (fun z => h z.1)]
theorem partL_len {w : Nat} {l : List Nat} (hw : 2 ≤ w) : (partL w l).length ≤ l.length + 1 ∧ ∀ p ∈ partL w l, p.length ≤ w := by
  generalize hn : l.length = n
  induction n using Nat.strongRecOn generalizing l with
  | ind n ih =>
    by_cases h : w < l.length
    · rw [partL_lt h hw]
      obtain ⟨a, b⟩ := ih (l.drop (w - 1)).length (by rw [List.length_drop]; omega) rfl
      rw [List.length_drop] at a
      refine ⟨by simp; omega, fun p hp => ?_⟩
      rcases List.mem_cons.mp hp with rfl | hp
      · simp; omega
      · exact b p hp
    · rw [partL_ge h]
      refine ⟨by simp, fun p hp => ?_⟩
      rw [List.mem_singleton.mp hp]
      omega
theorem partL_cp {w : Nat} {l : List Nat} (h : Cp l) : ∀ p ∈ partL w l, Cp p := by
  generalize hn : l.length = n
  induction n using Nat.strongRecOn generalizing l with
  | ind n ih =>
    by_cases hl : w < l.length ∧ 2 ≤ w
    · rw [partL_lt hl.1 hl.2]
      intro p hp
      rcases List.mem_cons.mp hp with rfl | hp
      · exact (h.take _).app (Cp.cons (by decide) Cp.nil)
      · exact ih (l.drop (w - 1)).length (by rw [List.length_drop]; omega) (h.drop _) rfl p hp
    · rw [partL, if_neg hl]
      intro p hp
      rw [List.mem_singleton.mp hp]
      exact h
theorem parted_ok {w : Nat} {l : List Nat} (hw : 2 ≤ w) (hl : l.length ≤ 1000000) {τ : TS'} : d_parted [.fr (.str (S l)), .fr (.int (w : Int))] τ = .ok (.lst (sL (partL w l))) τ := by
  obtain ⟨ρ', τ', e, ⟨cur, done, rfl, rfl, h1, h2, h3, h4⟩, _, h5⟩ := while_inv (n := 1073741824) (A := dTest (dOp gGt (dCall (c1 gLenS) (dCons (dV 0) dNil)) (dV 1))) (δ := b_parted_L1) (ρ := [some (.fr (.str (S l))), some (.fr (.int (w : Int))), some (.ow (.lst []))]) (τ := τ)
    (fun k ρ τ' => ∃ cur done, ρ = [some (.fr (.str (S cur))), some (.fr (.int (w : Int))), some (.ow (.lst (sL done)))] ∧ τ' = τ ∧ done ++ partL w cur = partL w l ∧ (w < cur.length → cur.length ≤ k) ∧ cur.length + done.length ≤ l.length ∧ cur.length ≤ 1000000) (m := l.length) (by omega)
    ⟨l, [], rfl, rfl, rfl, fun _ => Nat.le_refl _, by simp, hl⟩ (by
      rintro k ρ τ1 ⟨cur, done, rfl, rfl, h1, h2, h3, h4⟩
      by_cases q : w < cur.length
      · refine .inl ⟨τ1, [some (.fr (.str (S (cur.drop (w - 1))))), some (.fr (.int (w : Int))), some (.ow (.lst (sL (done ++ [cur.take (w - 1) ++ [45]]))))], τ1, cur.length - (w - 1), ?_, .inl ?_, by have := h2 q; omega, cur.drop (w - 1), done ++ [cur.take (w - 1) ++ [45]], rfl, rfl, ?_, fun _ => by rw [List.length_drop]; omega, by simp; omega, by simp; omega⟩
        · have q' : (w : Int) < cur.length := by omega
          simp (disch := first | omega | (simp <;> omega) | fail) [if_pos, q', q]
        · have c1 : cutL cur none (some ((w : Int) - 1)) = cur.take (w - 1) := by rw [cutL_to (by omega)]; congr 1; omega
          have c2 : cutL cur (some ((w : Int) - 1)) none = cur.drop (w - 1) := by rw [cutL_from (by omega)]; congr 1; omega
          simp (disch := first | omega | (simp <;> omega) | fail) [if_pos, b_parted_L1, b_parted_L1_1, c1, c2, lit_dash]
        · rw [← h1, partL_lt q hw]; simp
      · exact .inr ⟨τ1, by simp (disch := first | omega | (simp <;> omega) | fail) [if_pos, q], cur, done, rfl, rfl, h1, fun z => absurd z q, h3, h4⟩)
  have hc : ¬ w < cur.length := fun z => by have := h2 z; omega
  rw [partL_ge hc] at h1
  rw [← h1]
  simp (disch := first | omega | (simp <;> omega) | fail) [if_pos, d_parted, b_parted, b_parted_1, b_parted_2, ev_body, startP, List.replicate, e]
def wordsL (l : List Nat) : List (List Nat) := (splitL 32 l).filter fun p => !p.isEmpty
theorem words_of_ok {l : List Nat} (hl : l.length ≤ 1000000) {τ : TS'} : d_words_of [.fr (.str (S l))] τ = .ok (.lst (sL (wordsL l))) τ := by
  have lc : lcL (.nm 1) (dTest (dOp (gEq true) (dV 1) (dC (.str (S []))))) (dV 1) [some (.fr (.str (S l))), none] (sL (splitL 32 l)) τ = .ok (sL (wordsL l)) τ := lcL_fmapOf fun p hp => by
    refine ⟨_, tgF_nm, ?_, ?_⟩
    · cases p <;> simp
    · intro _; simp
  have sp := split_sL l 32
  have sl : (splitL 32 l).length ≤ l.length + 1 := splitL_cnt 32 l
  simp (disch := first | omega | (simp <;> omega) | fail) [if_pos, d_words_of, b_words_of, ev_body, startP, List.replicate, lit_sp, lit_emp, sp, lc]
def jn (r : List (List Nat)) : List Nat := joinL [32] r
def fstep (w : Nat) (rows : List (List (List Nat))) (x : List Nat) : List (List (List Nat)) := match rows.getLast? with
  | some r => if (jn (r ++ [x])).length ≤ w then rows.dropLast ++ [r ++ [x]] else rows ++ [[x]]
  | none => [[x]]
def fillL (w : Nat) (ws : List (List Nat)) : List (List (List Nat)) := ws.foldl (fstep w) []
theorem jn_snoc : ∀ {r : List (List Nat)} {x : List Nat}, r ≠ [] → (jn (r ++ [x])).length = (jn r).length + 1 + x.length
  | [a], x, _ => by simp [jn, joinL]; omega
  | a :: b :: r, x, _ => by
    have := jn_snoc (r := b :: r) (x := x) (by simp)
    simp only [jn, List.cons_append, joinL, List.length_append] at this ⊢
    omega
theorem jn_one (x : List Nat) : jn [x] = x := rfl
/-- a tree of rows -/
def rowT (r : List (List Nat)) : OT := .nd .lst (r.map fun p => .fr (.str (S p)))
def rowsT (rows : List (List (List Nat))) : List OT := rows.map rowT
def rowsD (rows : List (List (List Nat))) : List DD := rows.map fun r => .lst (sL r)
theorem rowT_D (r : List (List Nat)) : otD (rowT r) = .lst (sL r) := by
  unfold rowT
  rw [otD_l, otDs_map (g := fun p => .str (S p)) (fun p => by rw [otD])]
  rfl
theorem rowsT_D (rows : List (List (List Nat))) : ocD (.tr .lst (rowsT rows)) = .lst (rowsD rows) := by
  rw [ocD_t, otD_l]
  unfold rowsT rowsD
  rw [otDs_map rowT_D]
theorem rowsT_len (rows : List (List (List Nat))) : (rowsT rows).length = rows.length := by unfold rowsT; rw [List.length_map]
theorem rowsD_len (rows : List (List (List Nat))) : (rowsD rows).length = rows.length := by unfold rowsD; rw [List.length_map]
/-- what holds of rows all the way: none is empty, each fits or is one word; how many -/
structure RowsOk (n : Nat) (rows : List (List (List Nat))) : Prop where
  ne : ∀ r ∈ rows, r ≠ []
  many : (rows.map (·.length)).sum ≤ n
theorem RowsOk.len {n : Nat} {rows : List (List (List Nat))} (h : RowsOk n rows) : rows.length ≤ n ∧ ∀ r ∈ rows, r.length ≤ n := by
  have h1 : ∀ rows : List (List (List Nat)), (∀ r ∈ rows, r ≠ []) → rows.length ≤ (rows.map (·.length)).sum ∧ ∀ r ∈ rows, r.length ≤ (rows.map (·.length)).sum := by
    intro rows
    induction rows with
    | nil => intro _; simp
    | cons a rows ih =>
      intro hne
      obtain ⟨a1, a2⟩ := ih fun r hr => hne r (List.mem_cons_of_mem _ hr)
      have : 0 < a.length := List.length_pos_iff.mpr (hne a (by simp))
      refine ⟨by simp; omega, fun r hr => ?_⟩
      rcases List.mem_cons.mp hr with rfl | hr
      · simp
      · have := a2 r hr
        simp; omega
  obtain ⟨a, b⟩ := h1 rows h.ne
  exact ⟨Nat.le_trans a h.many, fun r hr => Nat.le_trans (b r hr) h.many⟩
theorem lastCases (rows : List (List (List Nat))) : rows = [] ∨ ∃ rs r, rows = rs ++ [r] := snocCases rows
theorem fstep_nil (w : Nat) (x : List Nat) : fstep w [] x = [[x]] := rfl
theorem fstep_snoc (w : Nat) (rs : List (List (List Nat))) (r : List (List Nat)) (x : List Nat) : fstep w (rs ++ [r]) x = if (jn (r ++ [x])).length ≤ w then rs ++ [r ++ [x]] else rs ++ [r] ++ [[x]] := by
  unfold fstep
  rw [List.getLast?_append]
  simp
theorem RowsOk.step {n w : Nat} {rows : List (List (List Nat))} {x : List Nat} (h : RowsOk n rows) : RowsOk (n + 1) (fstep w rows x) := by
  rcases lastCases rows with rfl | ⟨rs, r, rfl⟩
  · rw [fstep_nil]
    exact ⟨by simp, by simp⟩
  · rw [fstep_snoc]
    have hm := h.many
    simp only [List.map_append, List.sum_append, List.map_cons, List.map_nil, List.sum_cons, List.sum_nil] at hm
    split
    · refine ⟨fun q hq => ?_, by simp; omega⟩
      rcases List.mem_append.mp hq with hq | hq
      · exact h.ne q (List.mem_append_left _ hq)
      · rw [List.mem_singleton.mp hq]; simp
    · refine ⟨fun q hq => ?_, by simp; omega⟩
      rcases List.mem_append.mp hq with hq | hq
      · exact h.ne q hq
      · rw [List.mem_singleton.mp hq]; simp
theorem fillL_snoc (w : Nat) (ws : List (List Nat)) (x : List Nat) : fillL w (ws ++ [x]) = fstep w (fillL w ws) x := by unfold fillL; rw [List.foldl_append]; rfl
theorem fillL_ok (w : Nat) (ws : List (List Nat)) : RowsOk ws.length (fillL w ws) := by
  generalize hn : ws.length = n
  induction n generalizing ws with
  | zero => have : ws = [] := by simpa using hn
            subst this; exact ⟨by simp [fillL], by simp [fillL]⟩
  | succ n ih =>
    rcases snocCases ws with rfl | ⟨r, x, rfl⟩
    · simp at hn
    · rw [fillL_snoc]
      exact (ih r (by simpa using hn)).step
/-- how much room the last row has for a blank and a word -/
def roomOf (w : Nat) (rows : List (List (List Nat))) : Int := match rows.getLast? with
  | some r => (w : Int) - (jn r).length - 1
  | none => -1
theorem roomOf_snoc (w : Nat) (rs : List (List (List Nat))) (r : List (List Nat)) : roomOf w (rs ++ [r]) = (w : Int) - (jn r).length - 1 := by
  unfold roomOf; rw [List.getLast?_append]; simp
theorem fill_turn {w : Nat} {rows : List (List (List Nat))} {x : List Nat} (ho : RowsOk 1000000 rows) (hx : x.length ≤ 1000000) (hw : w ≤ 1000000) {o0 : Option PV} {τ : TS'} :
    b_filled_L1 [o0, some (.fr (.int (w : Int))), some (.ow (.tr .lst (rowsT rows))), some (.fr (.int (roomOf w rows))), some (.fr (.str (S x)))] τ =
      .ok (.nx [o0, some (.fr (.int (w : Int))), some (.ow (.tr .lst (rowsT (fstep w rows x)))), some (.fr (.int (roomOf w (fstep w rows x)))), some (.fr (.str (S x)))]) τ := by
  have ng : ∀ (ρ : PEnv) (τ : TS'), dUn gNeg (dC (.int 1)) ρ τ = .ok (.int (-1)) τ := fun ρ τ => by simp
  have rl := rowsT_len rows
  have lr := ho.len.1
  -- a new row
  have new : (roomOf w rows < (x.length : Int)) → fstep w rows x = rows ++ [[x]] →
    b_filled_L1 [o0, some (.fr (.int (w : Int))), some (.ow (.tr .lst (rowsT rows))), some (.fr (.int (roomOf w rows))), some (.fr (.str (S x)))] τ =
      .ok (.nx [o0, some (.fr (.int (w : Int))), some (.ow (.tr .lst (rowsT (fstep w rows x)))), some (.fr (.int (roomOf w (fstep w rows x)))), some (.fr (.str (S x)))]) τ := by
    intro h1 h2
    have st : ∀ ρ, eAppIx (some (some (.ow (.tr .lst (rowsT rows ++ [OT.nd .lst []]))))) 2 (dUn gNeg (dC (.int 1))) (dV 4) [o0, some (.fr (.int (w : Int))), some (.ow (.tr .lst (rowsT rows ++ [OT.nd .lst []]))), some (.fr (.int (w : Int))), some (.fr (.str (S x)))] ρ = _ := fun ρ => eAppIx_last (τ1 := ρ) (τ2 := ρ) (d := .str (S x)) (by simp) (by simp) (by simp)
    rw [h2]
    have e2 : rowsT (rows ++ [[x]]) = rowsT rows ++ [OT.nd .lst [.fr (.str (S x))]] := by unfold rowsT; rw [List.map_append]; rfl
    have e3 : roomOf w (rows ++ [[x]]) = (w : Int) - ((x.length : Int) + 1) := by rw [roomOf_snoc, jn_one]; omega
    rw [e2, e3]
    simp (disch := first | omega | (simp <;> omega) | fail) [if_pos, b_filled_L1, b_filled_L1_1, b_filled_L1_2, h1, rl, st]
  rcases lastCases rows with rfl | ⟨rs, r, rfl⟩
  · exact new (by show (-1 : Int) < _; omega) rfl
  · have hr : r ≠ [] := ho.ne r (by simp)
    have js := jn_snoc (x := x) hr
    rw [roomOf_snoc] at *
    by_cases q : (jn (r ++ [x])).length ≤ w
    · have h2 : fstep w (rs ++ [r]) x = rs ++ [r ++ [x]] := by rw [fstep_snoc, if_pos q]
      rw [h2]
      have e1 : rowsT (rs ++ [r]) = rowsT rs ++ [OT.nd .lst (r.map fun p => .fr (.str (S p)))] := by unfold rowsT; rw [List.map_append]; rfl
      have e2 : rowsT (rs ++ [r ++ [x]]) = rowsT rs ++ [OT.nd .lst ((r.map fun p => .fr (.str (S p))) ++ [.fr (.str (S x))])] := by unfold rowsT rowT; rw [List.map_append]; simp [rowT]
      have e3 : roomOf w (rs ++ [r ++ [x]]) = (w : Int) - (jn r).length - 1 - ((x.length : Int) + 1) := by rw [roomOf_snoc]; omega
      have h1 : ¬ ((w : Int) - (jn r).length - 1 < (x.length : Int)) := by omega
      have rlen := ho.len.2 r (by simp)
      have st : ∀ ρ, eAppIx (some (some (.ow (.tr .lst (rowsT rs ++ [OT.nd .lst (r.map fun p => .fr (.str (S p)))]))))) 2 (dUn gNeg (dC (.int 1))) (dV 4) [o0, some (.fr (.int (w : Int))), some (.ow (.tr .lst (rowsT rs ++ [OT.nd .lst (r.map fun p => .fr (.str (S p)))]))), some (.fr (.int ((w : Int) - (jn r).length - 1))), some (.fr (.str (S x)))] ρ = _ := fun ρ => eAppIx_last (τ1 := ρ) (τ2 := ρ) (d := .str (S x)) (by simp) (by simp) (by simp; omega)
      rw [e1, e2, e3]
      simp (disch := first | omega | (simp <;> omega) | fail) [if_pos, b_filled_L1, b_filled_L1_1, b_filled_L1_2, h1, st]
    · exact new (by omega) (by rw [fstep_snoc, if_neg q])
theorem filled_ok {w : Nat} {ws : List (List Nat)} (hw : w ≤ 1000000) (hn : ws.length ≤ 1000000) (hl : ∀ x ∈ ws, x.length ≤ 1000000) {τ : TS'} : d_filled [.fr (.lst (sL ws)), .fr (.int (w : Int))] τ = .ok (.lst (rowsD (fillL w ws))) τ := by
  obtain ⟨ρ', τ', e, q4, rfl, rfl⟩ := forL_inv (t := .nm 4) (δ := b_filled_L1) (ds := sL ws) (ρ := [some (.fr (.lst (sL ws))), some (.fr (.int (w : Int))), some (.ow (.tr .lst [])), some (.fr (.int (-1))), none]) (τ := τ)
    (fun i ρ τ' => ∃ q4, τ' = τ ∧ ρ = [some (.fr (.lst (sL ws))), some (.fr (.int (w : Int))), some (.ow (.tr .lst (rowsT (fillL w (ws.take i))))), some (.fr (.int (roomOf w (fillL w (ws.take i))))), q4])
    ⟨none, rfl, by simp [fillL, rowsT, roomOf]⟩ (by
      rintro i d ρ τ1 hd ⟨q4, rfl, rfl⟩
      unfold sL at hd
      rw [List.getElem?_map] at hd
      obtain ⟨x, hx, rfl⟩ := Option.map_eq_some_iff.mp hd
      have hi : i < ws.length := (List.getElem?_eq_some_iff.mp hx).1
      have ht : ws.take (i + 1) = ws.take i ++ [x] := by rw [List.take_add_one, hx]; rfl
      have ho := fillL_ok w (ws.take i)
      refine ⟨_, tgF_nm, _, _, .inl (fill_turn (rows := fillL w (ws.take i)) ⟨ho.ne, Nat.le_trans ho.many (by simp; omega)⟩ (hl x (List.mem_of_getElem? hx)) hw), some (.fr (.str (S x))), rfl, ?_⟩
      rw [ht, fillL_snoc])
  rw [sL_len, List.take_length] at e
  have D := rowsT_D (fillL w ws)
  simp [d_filled, b_filled, b_filled_1, b_filled_2, b_filled_3, ev_body, startP, List.replicate, e, D]
theorem blank_ok {n : Int} (h0 : 0 ≤ n) (h : n ≤ 10000000) : MulOk (S [32]) n := mulOk_of (by omega) (by omega) (by simp; omega)
def gapsL (e m n : Nat) : List Nat := (List.range n).map fun i => e + (if i < m then 1 else 0)
def glueL : List Nat → List (List Nat) → List Nat
  | g :: gs, x :: xs => List.replicate g 32 ++ (x ++ glueL gs xs)
  | _, _ => []
theorem le_sum : ∀ {l : List Nat} {a : Nat}, a ∈ l → a ≤ l.sum
  | b :: l, a, h => by
    rcases List.mem_cons.mp h with rfl | h
    · simp
    · have := le_sum h
      simp; omega
def sumL (ws : List (List Nat)) : Nat := (ws.map (·.length)).sum
def spreadL (w : Nat) : List (List Nat) → List Nat
  | [] => []
  | [x] => x
  | x :: y :: r => x ++ glueL (gapsL ((w - sumL (x :: y :: r)) / (r.length + 1)) ((w - sumL (x :: y :: r)) % (r.length + 1)) (r.length + 1)) (y :: r)
theorem jn_len : ∀ (ws : List (List Nat)), (jn ws).length = sumL ws + (ws.length - 1)
  | [] => rfl
  | [x] => by simp [jn, joinL, sumL]
  | x :: y :: r => by
    have := jn_len (y :: r)
    simp only [jn, sumL, joinL, List.length_append, List.length_cons, List.map_cons, List.sum_cons, List.length_nil] at this ⊢
    omega
theorem sum_cast (ws : List (List Nat)) : (ws.map fun p => (p.length : Int)).sum = ((sumL ws : Nat) : Int) := by
  unfold sumL
  induction ws with
  | nil => rfl
  | cons a ws ih => simp [ih]
theorem glueL_snoc : ∀ {gs : List Nat} {xs : List (List Nat)} {g : Nat} {x : List Nat}, gs.length = xs.length → glueL (gs ++ [g]) (xs ++ [x]) = glueL gs xs ++ (List.replicate g 32 ++ x)
  | [], [], g, x, _ => by simp [glueL]
  | a :: gs, b :: xs, g, x, h => by
    have := glueL_snoc (gs := gs) (xs := xs) (g := g) (x := x) (by simpa using h)
    simp [glueL, this]
theorem gapsL_get {e m n k : Nat} (h : k < n) : (gapsL e m n)[k]? = some (e + if k < m then 1 else 0) := by
  unfold gapsL; rw [List.getElem?_map, List.getElem?_range h]; rfl
theorem gapsL_len (e m n : Nat) : (gapsL e m n).length = n := by unfold gapsL; simp
theorem take_snoc {α : Type} {xs : List α} {k : Nat} {x : α} (h : xs[k]? = some x) : xs.take (k + 1) = xs.take k ++ [x] := by rw [List.take_add_one, h]; rfl
theorem glueL_len : ∀ {gs : List Nat} {xs : List (List Nat)}, (glueL gs xs).length ≤ gs.sum + sumL xs
  | [], xs => by simp [glueL]
  | g :: gs, [] => by simp [glueL]
  | g :: gs, x :: xs => by
    have := glueL_len (gs := gs) (xs := xs)
    simp only [glueL, List.length_append, List.length_replicate, List.sum_cons, sumL, List.map_cons] at this ⊢
    omega
theorem gapsL_sum (e m n : Nat) (h : m ≤ n) : (gapsL e m n).sum = e * n + m := by
  unfold gapsL
  induction n generalizing m with
  | zero => simp; omega
  | succ n ih =>
    rw [List.range_succ, List.map_append, List.sum_append]
    by_cases q : m ≤ n
    · rw [ih m q]
      simp only [List.map_cons, List.map_nil, List.sum_cons, List.sum_nil, if_neg (show ¬ n < m by omega), Nat.mul_succ]
      omega
    · have : m = n + 1 := by omega
      subst this
      have e2 : ((List.range n).map fun i => e + if i < n + 1 then 1 else 0) = (List.range n).map fun i => e + if i < n then 1 else 0 := by
        refine List.map_congr_left fun i hi => ?_
        have := List.mem_range.mp hi
        rw [if_pos (by omega), if_pos this]
      rw [e2, ih n (Nat.le_refl _)]
      simp [Nat.mul_succ]
      omega
theorem spread_ok {w : Nat} {ws : List (List Nat)} (h0 : ws ≠ []) (hj : (jn ws).length ≤ w) (hw : w ≤ 1000000) {τ : TS'} : d_spread [.fr (.lst (sL ws)), .fr (.int (w : Int))] τ = .ok (.str (S (spreadL w ws))) τ := by
  match ws, h0 with
  | [x], _ => simp [d_spread, b_spread, b_spread_1, ev_body, startP, List.replicate, spreadL]
  | x :: y :: r, _ =>
    rw [jn_len] at hj
    have hs : sumL (x :: y :: r) + (r.length + 1) ≤ w := by simpa using hj
    have xl : x.length ≤ sumL (x :: y :: r) := by unfold sumL; simp
    have lc : ∀ o2 o3 o4 o6 o7, lcL (.nm 5) dYes (dCall (c1 gLenS) (dCons (dV 5) dNil)) [some (.fr (.lst (sL (x :: y :: r)))), some (.fr (.int (w : Int))), o2, o3, o4, none, o6, o7] (sL (x :: y :: r)) τ = .ok ((x :: y :: r).map fun p => .int (p.length : Int)) τ := fun o2 o3 o4 o6 o7 => lcL_mapOf fun p hp => by
      refine ⟨_, tgF_nm, ?_⟩
      have : p.length ≤ sumL (x :: y :: r) := by
        unfold sumL
        exact le_sum (List.mem_map.mpr ⟨p, hp, rfl⟩)
      simp (disch := first | omega | (simp <;> omega) | fail) [if_pos, ]
    have sm := sum_cast (x :: y :: r)
    have si := ints?_mapf (f := fun p : List Nat => (p.length : Int)) (x :: y :: r)
    obtain ⟨E, hE⟩ : ∃ E, E = (w - sumL (x :: y :: r)) / (r.length + 1) := ⟨_, rfl⟩
    obtain ⟨M, hM⟩ : ∃ M, M = (w - sumL (x :: y :: r)) % (r.length + 1) := ⟨_, rfl⟩
    have hMlt : M < r.length + 1 := by rw [hM]; exact Nat.mod_lt _ (by omega)
    have hEM : E * (r.length + 1) + M = w - sumL (x :: y :: r) := by rw [hE, hM, Nat.mul_comm]; exact Nat.div_add_mod _ _
    have hEle : E ≤ w := by rw [hE]; exact Nat.le_trans (Nat.div_le_self _ _) (Nat.sub_le _ _)
    have d1 : ((w : Int) - ((sumL (x :: y :: r) : Nat) : Int)) / ((r.length : Int) + 1) = (E : Int) := by
      rw [hE, show (w : Int) - ((sumL (x :: y :: r) : Nat) : Int) = ((w - sumL (x :: y :: r) : Nat) : Int) by omega]
      exact (Int.natCast_ediv _ _).symm
    have d2 : ((w : Int) - ((sumL (x :: y :: r) : Nat) : Int)) % ((r.length : Int) + 1) = (M : Int) := by
      rw [hM, show (w : Int) - ((sumL (x :: y :: r) : Nat) : Int) = ((w - sumL (x :: y :: r) : Nat) : Int) by omega]
      exact (Int.natCast_emod _ _).symm
    have cd : CDiv ((w : Int) - ((sumL (x :: y :: r) : Nat) : Int)) ((r.length : Int) + 1) := ⟨by omega, by omega⟩
    have sp : spreadL w (x :: y :: r) = x ++ glueL (gapsL E M (r.length + 1)) (y :: r) := by rw [hE, hM]; rfl
    have gl : ∀ k, k ≤ r.length + 1 → (x ++ glueL ((gapsL E M (r.length + 1)).take k) ((y :: r).take k)).length ≤ w + w := fun k hk => by
      have h1 := glueL_len (gs := (gapsL E M (r.length + 1)).take k) (xs := (y :: r).take k)
      have h2 : ((gapsL E M (r.length + 1)).take k).sum ≤ (gapsL E M (r.length + 1)).sum := by
        conv => rhs; rw [← List.take_append_drop k (gapsL E M (r.length + 1)), List.sum_append]
        omega
      have h3 : sumL ((y :: r).take k) ≤ sumL (y :: r) := by
        unfold sumL
        conv => rhs; rw [← List.take_append_drop k (y :: r), List.map_append, List.sum_append]
        omega
      rw [gapsL_sum _ _ _ (by omega)] at h2
      have h4 : sumL (x :: y :: r) = x.length + sumL (y :: r) := by unfold sumL; simp
      rw [List.length_append]
      omega
    obtain ⟨ρ', τ', e, q5, q7, rfl, rfl⟩ := forL_inv (t := .tp [.nm 7, .nm 5]) (δ := b_spread_L1) (ds := enumD (sL (y :: r))) (ρ := [some (.fr (.lst (sL (x :: y :: r)))), some (.fr (.int (w : Int))), some (.fr (.int ((r.length : Int) + 1))), some (.fr (.int (E : Int))), some (.fr (.int (M : Int))), none, some (.fr (.str (S x))), none]) (τ := τ)
      (fun k ρ τ' => ∃ q5 q7, τ' = τ ∧ ρ = [some (.fr (.lst (sL (x :: y :: r)))), some (.fr (.int (w : Int))), some (.fr (.int ((r.length : Int) + 1))), some (.fr (.int (E : Int))), some (.fr (.int (M : Int))), q5, some (.fr (.str (S (x ++ glueL ((gapsL E M (r.length + 1)).take k) ((y :: r).take k))))), q7])
      ⟨none, none, rfl, by simp [glueL]⟩ (by
        rintro k d ρ τ1 hd ⟨q5, q7, rfl, rfl⟩
        obtain ⟨d', hd', rfl⟩ := enumD_get hd
        unfold sL at hd'
        rw [List.getElem?_map] at hd'
        obtain ⟨u, hu, rfl⟩ := Option.map_eq_some_iff.mp hd'
        have hk : k < r.length + 1 := by have := (List.getElem?_eq_some_iff.mp hu).1; simpa using this
        have g1 := gl k (by omega)
        have ul : u.length ≤ sumL (x :: y :: r) := by
          unfold sumL
          exact le_sum (List.mem_map.mpr ⟨u, List.mem_cons_of_mem _ (List.mem_of_getElem? hu), rfl⟩)
        rw [take_snoc hu, take_snoc (gapsL_get hk), glueL_snoc (by rw [List.length_take, List.length_take, gapsL_len]; simp)]
        generalize hB : x ++ glueL ((gapsL E M (r.length + 1)).take k) ((y :: r).take k) = B at *
        rw [← List.append_assoc, hB]
        refine ⟨_, tgF_two, _, _, .inl ?_, some (.fr (.str (S u))), some (.fr (.int (k : Int))), rfl, rfl⟩
        by_cases q : k < M
        · have q' : (k : Int) < (M : Int) := by omega
          have mo := blank_ok (n := (E : Int) + 1) (by omega) (by omega)
          have me : Txt.mul (S [32]) ((E : Int) + 1) = S (List.replicate (E + 1) 32) := mul_one 32 (E + 1)
          rw [if_pos q]
          simp (disch := first | omega | (simp <;> omega) | fail) [if_pos, b_spread_L1, lit_sp, q, q', mo, me]
        · have q' : ¬ (k : Int) < (M : Int) := by omega
          have mo := blank_ok (n := (E : Int)) (by omega) (by omega)
          have me : Txt.mul (S [32]) (E : Int) = S (List.replicate E 32) := mul_one 32 E
          rw [if_neg q]
          simp (disch := first | omega | (simp <;> omega) | fail) [if_pos, b_spread_L1, lit_sp, q, q', mo, me])
    rw [enumD_len, sL_len, show (y :: r).length = r.length + 1 from rfl, List.take_of_length_le (by rw [gapsL_len]; omega), List.take_of_length_le (by simp)] at e
    have ct : cutL (sL (x :: y :: r)) (some 1) none = sL (y :: r) := by rw [cutL_from (by decide)]; rfl
    rw [sp]
    have ne0 : ¬ ((r.length : Int) + 1 = 0) := by omega
    simp only [sL_cons] at lc e ct
    simp only [List.map_cons] at lc sm si
    simp (disch := first | omega | (simp <;> omega) | fail) [if_pos, d_spread, b_spread, b_spread_1, b_spread_2, b_spread_3, b_spread_4, b_spread_5, ev_body, startP, List.replicate, ne0, lc, sm, si, cd, d1, d2, ct, e]
theorem pad_ok {w : Nat} (h : w ≤ 1000000) : PadOk (w : Int) = true := by
  unfold PadOk fitsSsize Builtin.Str.tooLong
  simp [sizeLine_eq]
  omega
theorem fillL_fit {w : Nat} {ws : List (List Nat)} (h : ∀ x ∈ ws, x.length ≤ w) : ∀ r ∈ fillL w ws, (jn r).length ≤ w := by
  generalize hn : ws.length = n
  induction n generalizing ws with
  | zero => have : ws = [] := by simpa using hn
            subst this; simp [fillL]
  | succ n ih =>
    rcases snocCases ws with rfl | ⟨q, x, rfl⟩
    · simp at hn
    · rw [fillL_snoc]
      have ih' := ih (ws := q) (fun y hy => h y (List.mem_append_left _ hy)) (by simpa using hn)
      have hx := h x (by simp)
      rcases lastCases (fillL w q) with e | ⟨rs, r, e⟩
      · rw [e, fstep_nil]
        intro r hr
        rw [List.mem_singleton.mp hr]
        exact hx
      · rw [e] at ih' ⊢
        rw [fstep_snoc]
        split
        · rename_i hf
          intro y hy
          rcases List.mem_append.mp hy with hy | hy
          · exact ih' y (List.mem_append_left _ hy)
          · rw [List.mem_singleton.mp hy]; exact hf
        · intro y hy
          rcases List.mem_append.mp hy with hy | hy
          · exact ih' y hy
          · rw [List.mem_singleton.mp hy]; exact hx
def partsL (w : Nat) (ws : List (List Nat)) : List (List Nat) := (ws.map (partL w)).flatten
def rowsL (w : Nat) (ws : List (List Nat)) : List (List (List Nat)) := fillL w (partsL w ws)
def showL (w : Nat) (full : Bool) (rows : List (List (List Nat))) : List (List Nat) := if full = true then rows.dropLast.map (spreadL w) ++ (rows.map jn).drop (rows.length - 1) else rows.map jn
def paraL (w : Nat) (full : Bool) (ws : List (List Nat)) : List (List Nat) := (showL w full (rowsL w ws)).map (ljL w)
theorem partsL_len {w : Nat} {ws : List (List Nat)} (hw : 2 ≤ w) : (partsL w ws).length ≤ sumL ws + ws.length ∧ ∀ p ∈ partsL w ws, p.length ≤ w := by
  unfold partsL sumL
  induction ws with
  | nil => simp
  | cons a ws ih =>
    obtain ⟨h1, h2⟩ := partL_len (w := w) (l := a) hw
    simp only [List.map_cons, List.flatten_cons, List.length_append, List.sum_cons, List.length_cons]
    refine ⟨by omega, fun p hp => ?_⟩
    rcases List.mem_append.mp hp with hp | hp
    · exact h2 p hp
    · exact ih.2 p hp
theorem partsL_snoc (w : Nat) (ws : List (List Nat)) (x : List Nat) : partsL w (ws ++ [x]) = partsL w ws ++ partL w x := by unfold partsL; simp
theorem paragraph_ok {w : Nat} {full : Bool} {ws : List (List Nat)} (hw : 2 ≤ w) (hw2 : w ≤ 10000) (hn : ws.length + sumL ws ≤ 10000) {τ : TS'} :
    d_paragraph_rows [.fr (.lst (sL ws)), .fr (.int (w : Int)), .fr (.bl full)] τ = .ok (.lst (sL (paraL w full ws))) τ := by
  have xl : ∀ x ∈ ws, x.length ≤ sumL ws := fun x hx => le_sum (List.mem_map.mpr ⟨x, hx, rfl⟩)
  have pl := partsL_len (ws := ws) hw
  obtain ⟨ρ1, τ1, e1, q4, hτ, rfl⟩ := forL_inv (t := .nm 4) (δ := b_paragraph_rows_L1) (ds := sL ws) (ρ := [some (.fr (.lst (sL ws))), some (.fr (.int (w : Int))), some (.fr (.bl full)), some (.ow (.lst [])), none, none, none, none]) (τ := τ)
    (fun i ρ τ' => ∃ q4, τ' = τ ∧ ρ = [some (.fr (.lst (sL ws))), some (.fr (.int (w : Int))), some (.fr (.bl full)), some (.ow (.lst (sL (partsL w (ws.take i))))), q4, none, none, none])
    ⟨none, rfl, by simp [partsL]⟩ (by
      rintro i d ρ τ1 hd ⟨q4, rfl, rfl⟩
      unfold sL at hd
      rw [List.getElem?_map] at hd
      obtain ⟨x, hx, rfl⟩ := Option.map_eq_some_iff.mp hd
      have hxm := List.mem_of_getElem? hx
      have po := parted_ok (w := w) (l := x) hw (by have := xl x hxm; omega) (τ := τ1)
      have h1 := partsL_len (w := w) (ws := ws.take (i + 1)) hw
      have h2 : sumL (ws.take (i + 1)) ≤ sumL ws := by
        unfold sumL
        conv => rhs; rw [← List.take_append_drop (i + 1) ws, List.map_append, List.sum_append]
        omega
      have h3 : (ws.take (i + 1)).length ≤ ws.length := by simp; omega
      have h4 := h1.1
      rw [take_snoc hx, partsL_snoc] at h4 ⊢
      rw [take_snoc hx] at h2 h3
      simp only [List.length_append] at h4 h3
      have h5 : (partsL w (ws.take i)).length + (partL w x).length ≤ 16777216 := by omega
      refine ⟨_, tgF_nm, _, _, .inl ?_, some (.fr (.str (S x))), rfl, rfl⟩
      simp (disch := first | omega | (simp <;> omega) | fail) [if_pos, b_paragraph_rows_L1, po, h5])
  rw [sL_len, List.take_length, hτ] at e1
  have fo := filled_ok (w := w) (ws := partsL w ws) (by omega) (by omega) (fun x hx => by have := pl.2 x hx; omega) (τ := τ)
  have ro := fillL_ok w (partsL w ws)
  have rl := ro.len.1
  have fit := fillL_fit (w := w) (ws := partsL w ws) pl.2
  have hrows : fillL w (partsL w ws) = rowsL w ws := rfl
  rw [hrows] at fo ro rl fit
  unfold paraL showL
  generalize rowsL w ws = rows at *
  have jl : ∀ r ∈ rows, (r.map (·.length)).sum + r.length * 1 ≤ 16777216 := fun r hr => by
    have a := fit r hr
    rw [jn_len] at a
    have b := ro.len.2 r hr
    unfold sumL at a
    omega
  have l6 : ∀ o6 o3 o4, lcL (.nm 7) dYes (dM1 gJoin (dC (.str (S [32]))) (dV 7)) [some (.fr (.lst (sL ws))), some (.fr (.int (w : Int))), some (.fr (.bl full)), o3, o4, some (.fr (.lst (rowsD rows))), o6, none] (rowsD rows) τ = .ok (sL (rows.map jn)) τ := fun o6 o3 o4 => by
    unfold sL
    rw [List.map_map]
    exact lcL_mapOf fun r hr => ⟨_, tgF_nm, by simp [join_sL (s := [32]) (ps := r) (by simpa using jl r hr)]; rfl⟩
  have l7 : ∀ o6 o3 o4, lcL (.nm 7) dYes (dCallN 2 d_spread [] (dpCons (dpE (dV 7)) (dpCons (dpE (dV 1)) dpNil))) [some (.fr (.lst (sL ws))), some (.fr (.int (w : Int))), some (.fr (.bl full)), o3, o4, some (.fr (.lst (rowsD rows))), o6, none] (rowsD rows.dropLast) τ = .ok (sL (rows.dropLast.map (spreadL w))) τ := fun o6 o3 o4 => by
    unfold sL
    rw [List.map_map]
    exact lcL_mapOf fun r hr => by
      have hr' := List.dropLast_subset _ hr
      have so := spread_ok (w := w) (ws := r) (ro.ne r hr') (fit r hr') (by omega) (τ := τ)
      exact ⟨_, tgF_nm, by simp [so]⟩
  have l8 : ∀ (ps : List (List Nat)) o3 o4 o6, lcL (.nm 7) dYes (dMs gLjust (dV 7) (dCons (dV 1) dNil)) [some (.fr (.lst (sL ws))), some (.fr (.int (w : Int))), some (.fr (.bl full)), o3, o4, some (.fr (.lst (rowsD rows))), o6, none] (sL ps) τ = .ok (sL (ps.map (ljL w))) τ := fun ps o3 o4 o6 => by
    have pk := pad_ok (w := w) (by omega)
    unfold sL
    rw [List.map_map]
    exact lcL_mapOf fun p hp => ⟨_, tgF_nm, by simp [pk, ljust_S]⟩
  have dr : cutL (rowsD rows) none (some (-1)) = rowsD rows.dropLast := by rw [cutL_init]; unfold rowsD; rw [List.map_dropLast]
  have dl : cutL (sL (rows.map jn)) (some (-1)) none = sL ((rows.map jn).drop (rows.length - 1)) := by
    rw [cutL_sL, cutL_last, List.length_map]
  have rdl := rowsD_len rows
  have rdl2 := rowsD_len rows.dropLast
  have ng : ∀ (ρ : PEnv) (τ : TS'), dUn gNeg (dC (.int 1)) ρ τ = .ok (.int (-1)) τ := fun ρ τ => by simp
  cases full with
  | false => simp (disch := first | omega | (simp <;> omega) | fail) [if_pos, d_paragraph_rows, b_paragraph_rows, b_paragraph_rows_1, b_paragraph_rows_2, b_paragraph_rows_3, b_paragraph_rows_4, b_paragraph_rows_5, ev_body, startP, List.replicate, lit_sp, e1, fo, l6, l8, rdl]
  | true =>
    have ll : ((rows.map jn).drop (rows.length - 1)).length ≤ 1 := by simp; omega
    simp (disch := first | omega | (simp <;> omega) | fail) [if_pos, d_paragraph_rows, b_paragraph_rows, b_paragraph_rows_1, b_paragraph_rows_2, b_paragraph_rows_3, b_paragraph_rows_4, b_paragraph_rows_5, ev_body, startP, List.replicate, lit_sp, e1, fo, l6, rdl, rdl2, dr, dl, l7]
    rw [← sL_app, l8]
    simp
theorem sumL_filter (p : List Nat → Bool) (ws : List (List Nat)) : sumL (ws.filter p) + (ws.filter p).length ≤ sumL ws + ws.length := by
  unfold sumL
  induction ws with
  | nil => simp
  | cons a ws ih =>
    by_cases h : p a = true
    · rw [List.filter_cons_of_pos h]; simp; omega
    · rw [List.filter_cons_of_neg h]; simp; omega
theorem words_weight (l : List Nat) : sumL (wordsL l) + (wordsL l).length ≤ l.length + 1 := by
  have h1 := sumL_filter (fun p => !p.isEmpty) (splitL 32 l)
  have h2 := split_weight' 32 l
  unfold wordsL
  unfold sumL at *
  omega
theorem words_cp {l : List Nat} (h : Cp l) : Cps (wordsL l) := fun p hp => splitL_cp 32 h p (List.mem_filter.mp hp).1
theorem partsL_cp {w : Nat} {ws : List (List Nat)} (h : Cps ws) : Cps (partsL w ws) := fun p hp => by
  unfold partsL at hp
  obtain ⟨q, hq, hp⟩ := List.mem_flatten.mp hp
  obtain ⟨x, hx, rfl⟩ := List.mem_map.mp hq
  exact partL_cp (h x hx) p hp
theorem fillL_cp {w : Nat} {ws : List (List Nat)} (h : Cps ws) : ∀ r ∈ fillL w ws, Cps r := by
  generalize hn : ws.length = n
  induction n generalizing ws with
  | zero => have : ws = [] := by simpa using hn
            subst this; simp [fillL]
  | succ n ih =>
    rcases snocCases ws with rfl | ⟨q, x, rfl⟩
    · simp at hn
    · rw [fillL_snoc]
      have ih' := ih (ws := q) (fun y hy => h y (List.mem_append_left _ hy)) (by simpa using hn)
      have hx := h x (by simp)
      rcases lastCases (fillL w q) with e | ⟨rs, r, e⟩
      · rw [e, fstep_nil]
        intro r hr
        rw [List.mem_singleton.mp hr]
        exact Cps.one hx
      · rw [e] at ih' ⊢
        rw [fstep_snoc]
        split
        · intro y hy
          rcases List.mem_append.mp hy with hy | hy
          · exact ih' y (List.mem_append_left _ hy)
          · rw [List.mem_singleton.mp hy]; exact (ih' r (by simp)).app (Cps.one hx)
        · intro y hy
          rcases List.mem_append.mp hy with hy | hy
          · exact ih' y hy
          · rw [List.mem_singleton.mp hy]; exact Cps.one hx
theorem glueL_cp : ∀ {gs : List Nat} {xs : List (List Nat)}, Cps xs → Cp (glueL gs xs)
  | [], xs, _ => by simp only [glueL]; exact Cp.nil
  | g :: gs, [], _ => by simp only [glueL]; exact Cp.nil
  | g :: gs, x :: xs, h => by
    simp only [glueL]
    exact (Cp.rep (by decide) g).app ((h x (by simp)).app (glueL_cp fun p hp => h p (List.mem_cons_of_mem _ hp)))
theorem spreadL_cp {w : Nat} {ws : List (List Nat)} (h : Cps ws) : Cp (spreadL w ws) := by
  match ws with
  | [] => exact Cp.nil
  | [x] => exact h x (by simp)
  | x :: y :: r => exact (h x (by simp)).app (glueL_cp fun p hp => h p (List.mem_cons_of_mem _ hp))
theorem showL_cp {w : Nat} {full : Bool} {rows : List (List (List Nat))} (h : ∀ r ∈ rows, Cps r) : Cps (showL w full rows) := by
  have hj : ∀ r ∈ rows, Cp (jn r) := fun r hr => Cp.join (Cp.cons (by decide) Cp.nil) (h r hr)
  unfold showL
  split
  · refine Cps.app (fun p hp => ?_) (fun p hp => ?_)
    · obtain ⟨r, hr, rfl⟩ := List.mem_map.mp hp
      exact spreadL_cp (h r (List.dropLast_subset _ hr))
    · obtain ⟨r, hr, rfl⟩ := List.mem_map.mp (List.mem_of_mem_drop hp)
      exact hj r hr
  · intro p hp
    obtain ⟨r, hr, rfl⟩ := List.mem_map.mp hp
    exact hj r hr
theorem ljL_cp {w : Nat} {l : List Nat} (h : Cp l) : Cp (ljL w l) := h.app (Cp.rep (by decide) _)
theorem paraL_cp {w : Nat} {full : Bool} {ws : List (List Nat)} (h : Cps ws) : Cps (paraL w full ws) := fun p hp => by
  unfold paraL at hp
  obtain ⟨q, hq, rfl⟩ := List.mem_map.mp hp
  exact ljL_cp (showL_cp (fillL_cp (partsL_cp h)) q hq)
theorem showL_len (w : Nat) (full : Bool) (rows : List (List (List Nat))) : (showL w full rows).length = rows.length := by
  unfold showL
  split
  · cases rows with
    | nil => rfl
    | cons a b => simp
  · simp
theorem paraL_len {w : Nat} {full : Bool} {ws : List (List Nat)} (hw : 2 ≤ w) : (paraL w full ws).length ≤ sumL ws + ws.length := by
  unfold paraL
  rw [List.length_map, showL_len]
  have h1 := (fillL_ok w (partsL w ws)).len.1
  have h2 := (partsL_len (ws := ws) hw).1
  unfold rowsL
  omega
def setStep (w : Nat) (full : Bool) (gap : Nat) (acc : List (List Nat)) (p : List Nat) : List (List Nat) :=
  if wordsL p = [] then acc else acc ++ ((if acc = [] then [] else List.replicate gap (List.replicate w 32)) ++ paraL w full (wordsL p))
def setL (w : Nat) (full : Bool) (gap : Nat) (l : List Nat) : List (List Nat) := (splitL 10 l).foldl (setStep w full gap) []
theorem setStep_len {w gap : Nat} {full : Bool} {acc : List (List Nat)} {p : List Nat} (hw : 2 ≤ w) : (setStep w full gap acc p).length ≤ acc.length + gap + (p.length + 1) := by
  unfold setStep
  have h1 := paraL_len (w := w) (full := full) (ws := wordsL p) hw
  have h2 := words_weight p
  split
  · omega
  · rw [List.length_append, List.length_append]
    have h3 : (if acc = [] then [] else List.replicate gap (List.replicate w 32)).length ≤ gap := by split <;> simp
    omega
theorem setStep_cp {w gap : Nat} {full : Bool} {acc : List (List Nat)} {p : List Nat} (h : Cps acc) (hp : Cp p) : Cps (setStep w full gap acc p) := by
  unfold setStep
  split
  · exact h
  · refine h.app (Cps.app ?_ (paraL_cp (words_cp hp)))
    split
    · exact Cps.nil
    · intro q hq
      rw [List.eq_of_mem_replicate hq]
      exact Cp.rep (by decide) _
theorem foldl_take {α β : Type} (f : β → α → β) (b : β) {xs : List α} {k : Nat} {x : α} (h : xs[k]? = some x) : (xs.take (k + 1)).foldl f b = f ((xs.take k).foldl f b) x := by
  rw [take_snoc h, List.foldl_append]; rfl
/-- what is told so far, of some paragraphs -/
theorem set_inv {w gap : Nat} {full : Bool} {ps : List (List Nat)} (hw : 2 ≤ w) (hc : Cps ps) : ∀ k, k ≤ ps.length → Cps ((ps.take k).foldl (setStep w full gap) []) ∧ ((ps.take k).foldl (setStep w full gap) []).length ≤ sumL (ps.take k) + k * (gap + 1)
  | 0, _ => ⟨by simp [Cps], by simp⟩
  | k + 1, h => by
    obtain ⟨h1, h2⟩ := set_inv hw hc k (by omega)
    have hx : ps[k]? = some ps[k] := List.getElem?_eq_getElem (by omega)
    rw [foldl_take _ _ hx, take_snoc hx]
    refine ⟨setStep_cp h1 (hc _ (List.getElem_mem _)), ?_⟩
    have h3 := setStep_len (w := w) (gap := gap) (full := full) (acc := (ps.take k).foldl (setStep w full gap) []) (p := ps[k]) hw
    have h4 : sumL (ps.take k ++ [ps[k]]) = sumL (ps.take k) + ps[k].length := by unfold sumL; rw [List.map_append, List.sum_append]; simp only [List.map_cons, List.map_nil, List.sum_cons, List.sum_nil, Nat.add_zero]
    rw [h4, Nat.succ_mul]
    omega
theorem set_rows_ok {w gap : Nat} {full : Bool} {l : List Nat} (hw : 2 ≤ w) (hw2 : w ≤ 10000) (hg : gap ≤ 100) (hl : l.length ≤ 9000) (hc : Cp l) {τ : TS'} :
    d_set_rows [.fr (.str (S l)), .fr (.int (w : Int)), .fr (.bl full), .fr (.int (gap : Int))] τ = .ok (.lst (sL (setL w full gap l))) τ := by
  have pc : Cps (splitL 10 l) := splitL_cp 10 hc
  have pw := split_weight' 10 l
  have pl := splitL_len 10 l
  have inv := set_inv (w := w) (gap := gap) (full := full) (ps := splitL 10 l) hw pc
  obtain ⟨ρ1, τ1, e1, q5, q6, hτ, rfl⟩ := forL_inv (t := .nm 5) (δ := b_set_rows_L1) (ds := sL (splitL 10 l)) (ρ := [some (.fr (.str (S l))), some (.fr (.int (w : Int))), some (.fr (.bl full)), some (.fr (.int (gap : Int))), some (.ow (.lst [])), none, none, none]) (τ := τ)
    (fun i ρ τ' => ∃ q5 q6, τ' = τ ∧ ρ = [some (.fr (.str (S l))), some (.fr (.int (w : Int))), some (.fr (.bl full)), some (.fr (.int (gap : Int))), some (.ow (.lst (sL (((splitL 10 l).take i).foldl (setStep w full gap) [])))), q5, q6, none])
    ⟨none, none, rfl, by simp⟩ (by
      rintro i d ρ τ1 hd ⟨q5, q6, rfl, rfl⟩
      unfold sL at hd
      rw [List.getElem?_map] at hd
      obtain ⟨p, hp, rfl⟩ := Option.map_eq_some_iff.mp hd
      have hi : i < (splitL 10 l).length := (List.getElem?_eq_some_iff.mp hp).1
      obtain ⟨ac, al⟩ := inv i (by omega)
      have pm := List.mem_of_getElem? hp
      have pln := pl p pm
      have wo := words_of_ok (l := p) (by omega) (τ := τ1)
      have ww := words_weight p
      have wc := words_cp (pc p pm)
      have pg := paragraph_ok (w := w) (full := full) (ws := wordsL p) hw hw2 (by omega) (τ := τ1)
      have n1 := ne_nil_sL wc
      have n2 := ne_nil_sL ac
      have sl : sumL ((splitL 10 l).take i) ≤ sumL (splitL 10 l) := by
        unfold sumL
        conv => rhs; rw [← List.take_append_drop i (splitL 10 l), List.map_append, List.sum_append]
        omega
      have cnt := splitL_cnt 10 l
      have ac2 : (((splitL 10 l).take i).foldl (setStep w full gap) []).length ≤ 9001 + 9001 * 101 := by
        have : i * (gap + 1) ≤ 9001 * 101 := Nat.mul_le_mul (by omega) (by omega)
        have pw' : sumL (splitL 10 l) + (splitL 10 l).length = l.length + 1 := pw
        omega
      have plen := paraL_len (w := w) (full := full) (ws := wordsL p) hw
      rw [foldl_take _ _ hp]
      generalize ((splitL 10 l).take i).foldl (setStep w full gap) [] = acc at *
      refine ⟨_, tgF_nm, _, _, .inl ?_, some (.fr (.str (S p))), some (.fr (.lst (sL (wordsL p)))), rfl, rfl⟩
      by_cases hz : wordsL p = []
      · have e : setStep w full gap acc p = acc := by unfold setStep; rw [if_pos hz]
        rw [e]
        rw [hz] at wo n1 ⊢
        simp only [sL_nil] at wo n1
        simp (disch := first | omega | (simp <;> omega) | fail) [if_pos, b_set_rows_L1, b_set_rows_L1_1, wo, n1]
      · have e : setStep w full gap acc p = acc ++ ((if acc = [] then [] else List.replicate gap (List.replicate w 32)) ++ paraL w full (wordsL p)) := by unfold setStep; rw [if_neg hz]
        have we : (wordsL p).isEmpty = false := by cases hh : wordsL p with | nil => exact absurd hh hz | cons a b => rfl
        rw [we] at n1
        rw [e]
        by_cases ha : acc = []
        · subst ha
          simp only [sL_nil] at n2
          simp (disch := first | omega | (simp <;> omega) | fail) [if_pos, b_set_rows_L1, b_set_rows_L1_1, wo, n1, n2, pg]
        · have ae : acc.isEmpty = false := by cases hh : acc with | nil => exact absurd hh ha | cons a b => rfl
          rw [ae] at n2
          have rg : rgOk 0 (gap : Int) := by unfold rgOk; omega
          have mo := blank_ok (n := (w : Int)) (by omega) (by omega)
          have me := mul_one 32 w
          have lc : ∀ ρ, lcL (.nm 7) dYes (dOp gMulS (dC (.str (S [32]))) (dV 1)) (some (.fr (.str (S l))) :: some (.fr (.int (w : Int))) :: some (.fr (.bl full)) :: some (.fr (.int (gap : Int))) :: some (.ow (.lst (sL acc))) :: some (.fr (.str (S p))) :: some (.fr (.lst (sL (wordsL p)))) :: none :: ρ) (rangeD 0 gap) τ1 = .ok (sL (List.replicate gap (List.replicate w 32))) τ1 := fun ρ => by
            rw [lcL_map (f := fun _ => .str (S (List.replicate w 32))) fun d hd => ⟨_, tgF_nm, by simp [mo, me]⟩]
            congr 1
            unfold sL
            rw [List.map_replicate]
            apply List.ext_getElem
            · simp
            · intro i h1 h2; simp
          rw [if_neg ha]
          simp (disch := first | omega | (simp <;> omega) | fail) [if_pos, b_set_rows_L1, b_set_rows_L1_1, wo, n1, n2, pg, lit_sp, rg, lc])
  rw [sL_len, List.take_length, hτ] at e1
  have sp := split_sL l 10
  unfold setL
  simp (disch := first | omega | (simp <;> omega) | fail) [if_pos, d_set_rows, b_set_rows, b_set_rows_1, b_set_rows_2, ev_body, startP, List.replicate, lit_nl, sp, e1]
theorem spreadL_len {w : Nat} {ws : List (List Nat)} (hj : (jn ws).length ≤ w) : (spreadL w ws).length ≤ w := by
  match ws with
  | [] => simp [spreadL]
  | [x] => simpa [spreadL, jn, joinL] using hj
  | x :: y :: r =>
    rw [jn_len] at hj
    have hs : sumL (x :: y :: r) + (r.length + 1) ≤ w := by simpa using hj
    have h4 : sumL (x :: y :: r) = x.length + sumL (y :: r) := by unfold sumL; simp
    have h1 := glueL_len (gs := gapsL ((w - sumL (x :: y :: r)) / (r.length + 1)) ((w - sumL (x :: y :: r)) % (r.length + 1)) (r.length + 1)) (xs := y :: r)
    rw [gapsL_sum _ _ _ (Nat.le_of_lt (Nat.mod_lt _ (by omega)))] at h1
    have h2 := Nat.div_add_mod (w - sumL (x :: y :: r)) (r.length + 1)
    rw [Nat.mul_comm] at h2
    show (x ++ glueL _ _).length ≤ w
    rw [List.length_append]
    omega
theorem showL_fit {w : Nat} {full : Bool} {rows : List (List (List Nat))} (h : ∀ r ∈ rows, (jn r).length ≤ w) : ∀ p ∈ showL w full rows, p.length ≤ w := by
  unfold showL
  split
  · intro p hp
    rcases List.mem_append.mp hp with hp | hp
    · obtain ⟨r, hr, rfl⟩ := List.mem_map.mp hp
      exact spreadL_len (h r (List.dropLast_subset _ hr))
    · obtain ⟨r, hr, rfl⟩ := List.mem_map.mp (List.mem_of_mem_drop hp)
      exact h r hr
  · intro p hp
    obtain ⟨r, hr, rfl⟩ := List.mem_map.mp hp
    exact h r hr
theorem setStep_fit {w gap : Nat} {full : Bool} {acc : List (List Nat)} {p : List Nat} (hw : 2 ≤ w) (h : ∀ q ∈ acc, q.length ≤ w) : ∀ q ∈ setStep w full gap acc p, q.length ≤ w := by
  unfold setStep
  split
  · exact h
  · intro q hq
    rcases List.mem_append.mp hq with hq | hq
    · exact h q hq
    · rcases List.mem_append.mp hq with hq | hq
      · split at hq
        · cases hq
        · rw [List.eq_of_mem_replicate hq]; simp
      · unfold paraL at hq
        obtain ⟨u, hu, rfl⟩ := List.mem_map.mp hq
        have := showL_fit (full := full) (fillL_fit (w := w) (ws := partsL w (wordsL p)) (partsL_len hw).2) u hu
        unfold ljL
        simp
        omega
theorem setL_fit {w gap : Nat} {full : Bool} {l : List Nat} (hw : 2 ≤ w) : ∀ q ∈ setL w full gap l, q.length ≤ w := by
  unfold setL
  have : ∀ (ps : List (List Nat)) (acc : List (List Nat)), (∀ q ∈ acc, q.length ≤ w) → ∀ q ∈ ps.foldl (setStep w full gap) acc, q.length ≤ w := by
    intro ps
    induction ps with
    | nil => intro acc h; exact h
    | cons a b ih => intro acc h; exact ih _ (setStep_fit hw h)
  exact this _ _ (by simp)
def bF (rows : List (List Nat)) (w : Nat) : List (PySem.Str × DD) := [("kept", .lst (sL rows)), ("wide", .int (w : Int))]
def bD (rows : List (List Nat)) (w : Nat) : DD := .obj "Block" (bF rows w)
theorem ne_kw : (Str.ofString "kept") ≠ (Str.ofString "wide") := by decide +kernel
theorem nl_wk : ((Str.ofString "wide") == (Str.ofString "kept")) = false := by decide +kernel
theorem nl_lk : ((Str.ofString "lines") == (Str.ofString "kept")) = false := by decide +kernel
theorem nl_lw : ((Str.ofString "lines") == (Str.ofString "wide")) = false := by decide +kernel
@[simp] theorem bD_k (r : List (List Nat)) (w : Nat) : fldD "Block" "kept" (bD r w) = some (.lst (sL r)) := by
  unfold bD bF
  rw [fldD_eq]
  simp [List.lookup]
@[simp] theorem bD_w (r : List (List Nat)) (w : Nat) : fldD "Block" "wide" (bD r w) = some (.int (w : Int)) := by
  unfold bD bF
  rw [fldD_eq]
  simp [List.lookup, nl_wk]
theorem bF_lines (r : List (List Nat)) (w : Nat) : List.lookup (Str.ofString "lines") (bF r w) = none := by
  unfold bF
  simp [List.lookup, nl_lk, nl_lw]
theorem init_ok {rows : List (List Nat)} {w : Nat} (hw : w ≤ 4000) (hn : rows.length ≤ 4000) (h : ∀ r ∈ rows, r.length ≤ w) {τ : TS'} : allX d_BlockD_initD [.fr (.lst (sL rows)), .fr (.int (w : Int))] τ = .ok (bD (rows.map (ljL w)) w) τ := allX_eq fun x => by
  obtain ⟨ρ1, τ1, e1, q, hτ, rfl⟩ := forL_inv (t := .nm 3) (δ := b_BlockD_initD_L1) (ds := sL rows) (ρ := [some (.fr (.raw x)), some (.fr (.lst (sL rows))), some (.fr (.int (w : Int))), none]) (τ := τ)
    (fun i ρ τ' => ∃ q, τ' = τ ∧ ρ = [some (.fr (.raw x)), some (.fr (.lst (sL rows))), some (.fr (.int (w : Int))), q]) ⟨none, rfl, rfl⟩ (by
      rintro i d ρ τ1 hd ⟨q, rfl, rfl⟩
      unfold sL at hd
      rw [List.getElem?_map] at hd
      obtain ⟨p, hp, rfl⟩ := Option.map_eq_some_iff.mp hd
      have hl := h p (List.mem_of_getElem? hp)
      have hl' : ¬ (w : Int) < (p.length : Int) := by omega
      have hl2 : ¬ w < p.length := by omega
      refine ⟨_, tgF_nm, _, _, .inl ?_, some (.fr (.str (S p))), rfl, rfl⟩
      simp (disch := first | omega | (simp <;> omega) | fail) [if_pos, b_BlockD_initD_L1, hl', hl2])
  rw [hτ] at e1
  have m : lcL (.nm 3) dYes (dMs gLjust (dV 3) (dCons (dV 2) dNil)) [some (.fr (.raw x)), some (.fr (.lst (sL rows))), some (.fr (.int (w : Int))), none] (sL rows) τ = .ok (sL (rows.map (ljL w))) τ := by
    unfold sL
    rw [List.map_map]
    exact lcL_mapOf (mk := fun p => DD.str (S p)) (f := fun p => DD.str (S (ljL w p))) fun p hp => ⟨_, tgF_nm, by
      have hl := h p hp
      have pd := pad_ok (w := w) (by omega)
      simp (disch := first | omega | (simp <;> omega) | fail) [if_pos, ljust_S, pd]⟩
  simp (disch := first | omega | (simp <;> omega) | fail) [if_pos, d_BlockD_initD, ev_bodyI, b_BlockD_initD_pre, b_BlockD_initD_tail, startP, List.replicate, e1, m, bD, bF, putD_ne ne_kw]
theorem ljL_eq {w : Nat} {l : List Nat} (h : l.length = w) : ljL w l = l := by unfold ljL; rw [h, Nat.sub_self]; simp
theorem ljL_map {w : Nat} {rows : List (List Nat)} (h : ∀ r ∈ rows, r.length = w) : rows.map (ljL w) = rows := by
  conv => rhs; rw [← List.map_id rows]
  exact List.map_congr_left fun r hr => ljL_eq (h r hr)
theorem ljL_len {w : Nat} {l : List Nat} (h : l.length ≤ w) : (ljL w l).length = w := by unfold ljL; simp; omega
/-- a block within its bounds -/
structure Bk (n w : Nat) (rows : List (List Nat)) : Prop where
  n : rows.length ≤ n
  w : ∀ r ∈ rows, r.length = w
  c : Cps rows
theorem Bk.init {n w : Nat} {rows : List (List Nat)} (h : Bk n w rows) (hw : w ≤ 4000) (hn : n ≤ 4000) {τ : TS'} : allX d_BlockD_initD [.fr (.lst (sL rows)), .fr (.int (w : Int))] τ = .ok (bD rows w) τ := by
  have := init_ok (τ := τ) hw (Nat.le_trans h.n hn) (fun r hr => Nat.le_of_eq (h.w r hr))
  rw [ljL_map h.w] at this
  exact this
theorem Bk.mono {n m w : Nat} {rows : List (List Nat)} (h : Bk n w rows) (k : n ≤ m) : Bk m w rows := ⟨Nat.le_trans h.n k, h.w, h.c⟩
theorem len_ok {n w : Nat} {rows : List (List Nat)} (h : Bk n w rows) (hn : n ≤ 4000) {τ : TS'} : d_BlockD_lenD [.fr (bD rows w)] τ = .ok (.int (rows.length : Int)) τ := by
  have := h.n
  simp (disch := first | omega | (simp <;> omega) | fail) [if_pos, d_BlockD_lenD, b_BlockD_lenD, ev_body, startP]
theorem lines_ok {n w : Nat} {rows : List (List Nat)} (h : Bk n w rows) (hn : n ≤ 4000) {τ : TS'} : d_Block_lines [.fr (bD rows w)] τ = .ok (.lst (sL rows)) τ := by
  have := h.n
  simp (disch := first | omega | (simp <;> omega) | fail) [if_pos, d_Block_lines, b_Block_lines, ev_bodyO, startP]
theorem plain_sL (a : List (List Nat)) : plainDs (sL a) = true := by
  induction a with
  | nil => rfl
  | cons x a ih => rw [sL_cons, plainDs, ih]; rfl
@[simp] theorem eSp_b {r : List (List Nat)} {w : Nat} {τ : TS'} {F : Fn} {h : DD → TS' → R DD} : eSp (.ok [bD r w] τ) "Block" F h = (F [.fr (bD r w)] τ).nox.bind h := eSp_ok
@[simp] theorem eMe_b {r : List (List Nat)} {w k : Nat} {τ : TS'} {F : FnO} {ps : DPs} {ρ : PEnv} : eMeO1 (.ok (bD r w) τ) k "Block" "lines" F ps ρ = eMeO2 (ps ρ τ) k F (bD r w) := by
  unfold bD
  rw [eMeO1_ok, if_pos (bF_lines r w)]
@[simp] theorem eEq_b {r q : List (List Nat)} {w v : Nat} {τ : TS'} {F : Fn} {neg : Bool} : eEqO2 (.ok (bD q v) τ) neg "Block" F (bD r w) = (toB (F [.fr (bD r w), .fr (bD q v)] τ)).bind fun r τ3 => .ok (.bl (xor neg r)) τ3 := by
  have h : sideY "Block" (bD q v) = true := side_obj
  unfold bD at *
  rw [eEqO2_ok, if_pos h]
@[simp] theorem gIsN_b {k : Bool} {r : List (List Nat)} {w : Nat} : gIsN k (bD r w) .non = some (.bl k) := gIsN_o
@[simp] theorem gIsO_b {r : List (List Nat)} {w : Nat} : gIsO "Block" (bD r w) = some (.bl true) := gIsO_obj
theorem mulOk1 {c : Nat} {n : Int} (h0 : 0 ≤ n) (h : n ≤ 10000000) : MulOk (S [c]) n := mulOk_of (by omega) (by omega) (by simp; omega)
def growL (m : Nat) (rows : List (List Nat)) (w : Nat) : List (List Nat) := rows ++ List.replicate (m - rows.length) (List.replicate w 32)
theorem growL_len {m w : Nat} {rows : List (List Nat)} (h : rows.length ≤ m) : (growL m rows w).length = m := by unfold growL; simp; omega
theorem Bk.grow {n w m : Nat} {rows : List (List Nat)} (h : Bk n w rows) (hn : n ≤ m) : Bk m w (growL m rows w) := by
  have := h.n
  refine ⟨Nat.le_of_eq (growL_len (by omega)), fun r hr => ?_, ?_⟩
  · unfold growL at hr
    rcases List.mem_append.mp hr with q | q
    · exact h.w r q
    · rw [List.eq_of_mem_replicate q]; simp
  · unfold growL
    refine h.c.app fun p hp => ?_
    rw [List.eq_of_mem_replicate hp]
    exact Cp.rep (by decide) _
theorem lit_bar : (Str.ofString "| ") = S [124, 32] := by decide +kernel
theorem lit_rab : (Str.ofString " |") = S [32, 124] := by decide +kernel
theorem lit_plus : (Str.ofString "+") = S [43] := by decide +kernel
def edgeL (w : Nat) : List Nat := [43] ++ List.replicate (w + 2) 45 ++ [43]
def frL (rows : List (List Nat)) (w : Nat) : List (List Nat) := [edgeL w] ++ rows.map (fun r => [124, 32] ++ r ++ [32, 124]) ++ [edgeL w]
theorem Bk.fr {n w : Nat} {rows : List (List Nat)} (h : Bk n w rows) : Bk (n + 2) (w + 4) (frL rows w) := by
  have := h.n
  refine ⟨by unfold frL; simp; omega, fun r hr => ?_, fun r hr => ?_⟩
  · unfold frL edgeL at hr
    simp only [List.mem_append, List.mem_singleton, List.mem_map] at hr
    rcases hr with (rfl | ⟨q, hq, rfl⟩) | rfl
    · simp
    · have := h.w q hq; simp; omega
    · simp
  · have ce : Cp (edgeL w) := ((Cp.cons (by decide) Cp.nil).app (Cp.rep (by decide) _)).app (Cp.cons (by decide) Cp.nil)
    unfold frL at hr
    simp only [List.mem_append, List.mem_singleton, List.mem_map] at hr
    rcases hr with (rfl | ⟨q, hq, rfl⟩) | rfl
    · exact ce
    · exact ((Cp.cons (by decide) (Cp.cons (by decide) Cp.nil)).app (h.c q hq)).app (Cp.cons (by decide) (Cp.cons (by decide) Cp.nil))
    · exact ce
theorem cat_n (x y : PySem.Str) : (x ++ y).length = x.length + y.length := by
  show (x.cps ++ y.cps).size = _
  rw [Array.size_append]
  rfl
theorem eJs_if {y acc : PySem.Str} {ds : List DE} {ρ : PEnv} {τ : TS'} : eJs (.ok (.str y) τ) acc ds ρ = if acc.length + y.length ≤ 16777216 then dJs ds (acc ++ y) ρ τ else .no := by
  show (if (acc ++ y).length ≤ sizeLine then dJs ds (acc ++ y) ρ τ else .no) = _
  rw [cat_n]
  rfl
theorem framed_ok {n w : Nat} {rows : List (List Nat)} (h : Bk n w rows) (hw : w ≤ 1000) (hn : n ≤ 3000) {τ : TS'} : d_framed [.fr (bD rows w)] τ = .ok (bD (frL rows w) (w + 4)) τ := by
  have hl := h.n
  have l1 := lines_ok h (by omega) (τ := τ)
  have ini := h.fr.init (τ := τ) (by omega) (by omega)
  rw [show ((w + 4 : Nat) : Int) = (w : Int) + 4 from by omega] at ini
  have gm : gMulS (.str (S [45])) (.int ((w : Int) + 2)) = some (.str (S (List.replicate (w + 2) 45))) := by
    rw [gMulS_eq, if_pos (mulOk1 (by omega) (by omega)), show (w : Int) + 2 = ((w + 2 : Nat) : Int) from by omega, mul_one]
  have ed : [43] ++ (List.replicate (w + 2) 45 ++ [43]) = edgeL w := by simp [edgeL]
  have dl : (List.replicate (w + 2) 45).length = w + 2 := List.length_replicate
  have el : (edgeL w).length = w + 4 := by unfold edgeL; simp
  have lc : lcL (.nm 3) dYes (dJs [(dC (.str "| ")), (dUn gFmt (dV 3)), (dC (.str " |"))] Str.empty) [some (.fr (bD rows w)), some (.fr (.str (S (edgeL w)))), none, none] (sL rows) τ = .ok (sL (rows.map fun r => [124, 32] ++ r ++ [32, 124])) τ := by
    unfold sL
    rw [List.map_map]
    exact lcL_mapOf (mk := fun p => DD.str (S p)) (f := fun p => DD.str (S ([124, 32] ++ p ++ [32, 124]))) fun p hp => ⟨_, tgF_nm, by
      have := h.w p hp
      simp (disch := first | omega | (simp <;> omega) | fail) [if_pos, lit_bar, lit_rab, eJs_if, str_emp, S_n]⟩
  have fe : DD.str (S (edgeL w)) :: (sL (rows.map fun r => [124, 32] ++ r ++ [32, 124]) ++ [DD.str (S (edgeL w))]) = sL (frL rows w) := by unfold frL; simp
  rw [← fe] at ini
  have ln : (sL (rows.map fun r => [124, 32] ++ r ++ [32, 124])).length = rows.length := by rw [sL_len, List.length_map]
  generalize List.replicate (w + 2) 45 = D at *
  generalize sL (rows.map fun r => [124, 32] ++ r ++ [32, 124]) = Z at *
  have ed' : 43 :: (D ++ [43]) = edgeL w := ed
  simp (disch := first | omega | (simp <;> omega) | fail) [if_pos, d_framed, b_framed, b_framed_1, b_framed_2, ev_body, startP, List.replicate, l1, lc, lit_plus, lit_dash, gm, dl, ed', ln, ini, pickL, pick1, List.filterMap, -gMulS_eq]
theorem setL_len {w : Nat} {full : Bool} {l : List Nat} (hw : 2 ≤ w) (hc : Cp l) : (setL w full 0 l).length ≤ l.length + 1 ∧ Cps (setL w full 0 l) := by
  have h := set_inv (w := w) (gap := 0) (full := full) (ps := splitL 10 l) hw (splitL_cp 10 hc) _ (Nat.le_refl _)
  rw [List.take_length] at h
  have k := split_weight' 10 l
  have e : (splitL 10 l).foldl (setStep w full 0) [] = setL w full 0 l := rfl
  rw [e] at h
  refine ⟨?_, h.1⟩
  have h2 := h.2
  unfold sumL at h2
  omega
def adR (w : Nat) (x : List Nat) : List (List Nat) := (setL w false 0 x).map (ljL w)
theorem adR_bk {w : Nat} {x : List Nat} (hw : 2 ≤ w) (hx : x.length ≤ 1930) (hc : Cp x) : Bk 1931 w (adR w x) := by
  obtain ⟨h1, h2⟩ := setL_len (full := false) hw hc
  unfold adR
  refine ⟨by rw [List.length_map]; omega, fun r hr => ?_, fun r hr => ?_⟩
  · obtain ⟨q, hq, rfl⟩ := List.mem_map.mp hr
    exact ljL_len (setL_fit hw q hq)
  · obtain ⟨q, hq, rfl⟩ := List.mem_map.mp hr
    exact ljL_cp (h2 q hq)
theorem wide_ok {s b : Nat} {A : Int} {p0 p2 : DD} (hA : (s : Int) * (b : Int) + ((s : Int) - 1) * 3 = A) (hs : s ≤ 6) (hb : b ≤ 40) {τ : TS'} : d_wide_of [.fr (.tup [p0, .int (b : Int), p2]), .fr (.int (s : Int))] τ = .ok (.int A) τ := by
  have c1 : CMul (s : Int) (b : Int) := .inl ⟨by omega, by omega⟩
  have c2 : CMul ((s : Int) - 1) 3 := .inl ⟨by omega, by omega⟩
  rw [← hA]
  simp (disch := first | omega | (simp <;> omega) | fail) [if_pos, d_wide_of, b_wide_of, ev_body, startP, c1, c2]
theorem ad_block_ok {s b W : Nat} {p0 p2 nm : DD} {x : List Nat} (hA : (s : Int) * (b : Int) + ((s : Int) - 1) * 3 = (W : Int) + 4) (hs : s ≤ 6) (hb : b ≤ 40) (w0 : 12 ≤ W) (w1 : W ≤ 260) (hx : x.length ≤ 1930) (hc : Cp x) {τ : TS'} :
    d_ad_block [.fr (.tup [p0, .int (b : Int), p2]), .fr (.tup [nm, .int (s : Int), .str (S x)])] τ = .ok (bD (frL (adR W x) W) (W + 4)) τ := by
  obtain ⟨h1, h2⟩ := setL_len (w := W) (full := false) (by omega) hc
  have wo := wide_ok (p0 := p0) (p2 := p2) hA hs hb (τ := τ)
  have so := set_rows_ok (w := W) (gap := 0) (full := false) (l := x) (by omega) (by omega) (by omega) (by omega) hc (τ := τ)
  simp only [Int.natCast_zero] at so
  have ini := init_ok (rows := setL W false 0 x) (w := W) (τ := τ) (by omega) (by omega) (setL_fit (by omega))
  have fr := framed_ok (adR_bk (w := W) (x := x) (by omega) hx hc) (by omega) (by omega) (τ := τ)
  have e : (setL W false 0 x).map (ljL W) = adR W x := rfl
  rw [e] at ini
  generalize adR W x = R at *
  generalize setL W false 0 x = Z at *
  simp (disch := first | omega | (simp <;> omega) | fail) [if_pos, d_ad_block, b_ad_block, b_ad_block_1, b_ad_block_2, ev_body, startP, List.replicate, wo, so, ini, fr, pickL, pick1, List.filterMap]
theorem ad_rows_ok {s b W : Nat} {p0 p2 nm : DD} {x : List Nat} (hA : (s : Int) * (b : Int) + ((s : Int) - 1) * 3 = (W : Int) + 4) (hs : s ≤ 6) (hb : b ≤ 40) (w0 : 12 ≤ W) (w1 : W ≤ 260) (hx : x.length ≤ 1930) (hc : Cp x) {τ : TS'} :
    d__law_ad_rows [.fr (.tup [p0, .int (b : Int), p2]), .fr (.tup [nm, .int (s : Int), .str (S x)])] τ = .ok (.lst (sL (frL (adR W x) W))) τ := by
  obtain ⟨h1, h2⟩ := setL_len (w := W) (full := false) (by omega) hc
  have c1 : CMul (s : Int) (b : Int) := .inl ⟨by omega, by omega⟩
  have c2 : CMul 3 ((s : Int) - 1) := .inl ⟨by omega, by omega⟩
  have so := set_rows_ok (w := W) (gap := 0) (full := false) (l := x) (by omega) (by omega) (by omega) (by omega) hc (τ := τ)
  simp only [Int.natCast_zero] at so
  have fit := setL_fit (w := W) (gap := 0) (full := false) (l := x) (by omega)
  obtain ⟨A, hA0⟩ : ∃ A : Int, A = (s : Int) * (b : Int) + 3 * ((s : Int) - 1) := ⟨_, rfl⟩
  have hA4 : A - 4 = (W : Int) := by omega
  have hA2 : A - 2 = (W : Int) + 2 := by omega
  have lc : lcL (.nm 4) dYes (dOp gCatS (dOp gCatS (dC (.str "| ")) (dMs gLjust (dV 4) (dCons (dOp Np.gSub (dV 2) (dC (.int 4))) dNil))) (dC (.str " |"))) [some (.fr (.tup [p0, .int (b : Int), p2])), some (.fr (.tup [nm, .int (s : Int), .str (S x)])), some (.fr (.int A)), none, none] (sL (setL W false 0 x)) τ = .ok (sL ((adR W x).map fun r => [124, 32] ++ r ++ [32, 124])) τ := by
    unfold sL adR
    rw [List.map_map, List.map_map]
    exact lcL_mapOf (mk := fun p => DD.str (S p)) (f := fun p => DD.str (S ([124, 32] ++ ljL W p ++ [32, 124]))) fun p hp => ⟨_, tgF_nm, by
      have q := fit p hp
      have ql := ljL_len q
      have pd := pad_ok (w := W) (by omega)
      simp (disch := first | omega | (simp <;> omega) | fail) [if_pos, lit_bar, lit_rab, hA4, ljust_S, pd, ql]⟩
  have gm : gMulS (.str (S [45])) (.int ((W : Int) + 2)) = some (.str (S (List.replicate (W + 2) 45))) := by
    rw [gMulS_eq, if_pos (mulOk1 (by omega) (by omega)), show (W : Int) + 2 = ((W + 2 : Nat) : Int) from by omega, mul_one]
  have dl : (List.replicate (W + 2) 45).length = W + 2 := List.length_replicate
  have el : (edgeL W).length = W + 4 := by unfold edgeL; simp
  have ln : (sL ((adR W x).map fun r => [124, 32] ++ r ++ [32, 124])).length ≤ 1931 := by
    rw [sL_len, List.length_map]
    exact (adR_bk (w := W) (x := x) (by omega) hx hc).n
  have fe : DD.str (S (edgeL W)) :: (sL ((adR W x).map fun r => [124, 32] ++ r ++ [32, 124]) ++ [DD.str (S (edgeL W))]) = sL (frL (adR W x) W) := by unfold frL; simp
  have ed : 43 :: (List.replicate (W + 2) 45 ++ [43]) = edgeL W := by simp [edgeL]
  rw [← fe]
  generalize sL ((adR W x).map fun r => [124, 32] ++ r ++ [32, 124]) = Z at *
  generalize List.replicate (W + 2) 45 = D at *
  generalize setL W false 0 x = Y at *
  simp (disch := first | omega | (simp <;> omega) | fail) [if_pos, d__law_ad_rows, b__law_ad_rows, b__law_ad_rows_1, b__law_ad_rows_2, ev_body, startP, List.replicate, c1, c2, ← hA0, hA4, hA2, so, lc, lit_plus, lit_dash, gm, dl, ed, ln, -gMulS_eq]
theorem pickN {r : Int} {xs : List Int} (h0 : 0 ≤ r) (h1 : r < xs.length) : ∃ v, atI (xs.map DD.int) r = some (.int v) ∧ v ∈ xs := by
  obtain ⟨j, rfl⟩ := Int.eq_ofNat_of_zero_le h0
  have hj : j < xs.length := by omega
  exact ⟨xs[j], atI_nat (by rw [List.getElem?_map, List.getElem?_eq_getElem hj]; rfl), List.getElem_mem hj⟩
def NM : List (List Nat) := (["a", "b", "zz", "might", "aa", "z", "abcdefgh", "abcdefgi", "own", "x", "add", "ab", "ba", "given", "end", "q", "set", "m", "is", "go", "one", "xy", "above", "number", "n", "plus", "ax", "bx", "cx", "dx", "ey", "fy", "gy", "hy", "iy", "jy", "ky", "ly", "my", "ny", "oy"].map fun s => (Str.ofString s).cps.toList)
theorem NM_len : NM.length = 41 := by decide +kernel
structure Nm1 (x : List Nat) : Prop where
  cp : Cp x
  len : x.length ≤ 8
  un : x.take 7 ++ [97] ≠ x
theorem NM_ok : ∀ x ∈ NM, Nm1 x := by
  have : ∀ x ∈ NM, (∀ c ∈ x, c < 1114112) ∧ x.length ≤ 8 ∧ x.take 7 ++ [97] ≠ x := by decide +kernel
  exact fun x hx => ⟨(this x hx).1, (this x hx).2.1, (this x hx).2.2⟩
theorem NM_eq : ([DD.str "a", .str "b", .str "zz", .str "might", .str "aa", .str "z", .str "abcdefgh", .str "abcdefgi", .str "own", .str "x", .str "add", .str "ab", .str "ba", .str "given", .str "end", .str "q", .str "set", .str "m", .str "is", .str "go", .str "one", .str "xy", .str "above", .str "number", .str "n", .str "plus", .str "ax", .str "bx", .str "cx", .str "dx", .str "ey", .str "fy", .str "gy", .str "hy", .str "iy", .str "jy", .str "ky", .str "ly", .str "my", .str "ny", .str "oy"] : List DD) = sL NM := by
  unfold NM sL
  simp only [List.map_cons, List.map_nil, ← S_of]
theorem NM_nd : NM.Nodup := by decide +kernel
theorem idx_nd : ∀ r ∈ List.range 41, ∀ s ∈ [1, 3, 7, 11, 13, 40], ∀ i ∈ List.range 9, ∀ j ∈ List.range 9, (r + s * i) % 41 = (r + s * j) % 41 → i = j := by decide +kernel
def nmA (r s m : Nat) : List (List Nat) := (List.range m).map fun i => NM.getD ((r + s * i) % 41) []
theorem nmA_nd {r s m : Nat} (hr : r < 41) (hs : s ∈ [1, 3, 7, 11, 13, 40]) (hm : m ≤ 9) : (nmA r s m).Nodup := by
  unfold nmA
  rw [List.Nodup, List.pairwise_map]
  refine List.Pairwise.imp_of_mem (R := fun i j => i ≠ j) (fun {i j} hi hj hne e => ?_) List.nodup_range
  have hi := List.mem_range.mp hi
  have hj := List.mem_range.mp hj
  have l1 : (r + s * i) % 41 < NM.length := by rw [NM_len]; omega
  have l2 : (r + s * j) % 41 < NM.length := by rw [NM_len]; omega
  rw [List.getD_eq_getElem?_getD, List.getD_eq_getElem?_getD, List.getElem?_eq_getElem l1, List.getElem?_eq_getElem l2] at e
  have e2 := (List.getElem_inj NM_nd).mp e
  exact hne (idx_nd r (List.mem_range.mpr hr) s hs i (List.mem_range.mpr (by omega)) j (List.mem_range.mpr (by omega)) e2)
theorem nmA_ok {r s m : Nat} : ∀ x ∈ nmA r s m, Nm1 x := fun x hx => by
  obtain ⟨i, _, rfl⟩ := List.mem_map.mp hx
  have l1 : (r + s * i) % 41 < NM.length := by rw [NM_len]; omega
  rw [List.getD_eq_getElem?_getD, List.getElem?_eq_getElem l1]
  exact NM_ok _ (List.getElem_mem l1)
theorem names_nd {n m : Nat} {t : Tau} (h : Tn n t) (hn : n < 2 ^ 48) (hm : m ≤ 9) : ∃ xs t', d__law_names [.tape, .fr (.int (m : Int))] (some t) = .ok (.lst (sL xs)) (some t') ∧ xs.length = m ∧ (∀ x ∈ xs, Nm1 x) ∧ xs.Nodup ∧ Tn (n + 2) t' := by
  obtain ⟨r1, t1, e1, a1, b1, T1⟩ := draw_ok h (by omega) (m := 41) (by decide) (by decide)
  obtain ⟨r2, t2, e2, a2, b2, T2⟩ := draw_ok T1 (by omega) (m := 6) (by decide) (by decide)
  obtain ⟨st, hs, hs2⟩ := pickN (xs := [1, 3, 7, 11, 13, 40]) a2 b2
  obtain ⟨s, rfl⟩ := Int.eq_ofNat_of_zero_le (a := st) (by simp at hs2; omega)
  obtain ⟨r, rfl⟩ := Int.eq_ofNat_of_zero_le a1
  have hs3 : s ∈ [1, 3, 7, 11, 13, 40] := by
    simp only [List.mem_cons, List.not_mem_nil, or_false] at hs2 ⊢
    omega
  have s1 : s ≤ 40 := by
    simp only [List.mem_cons, List.not_mem_nil, or_false] at hs3
    omega
  have hs' : atI [DD.int 1, DD.int 3, DD.int 7, DD.int 11, DD.int 13, DD.int 40] r2 = some (.int (s : Int)) := hs
  have lc : lcL (.nm 5) dYes (dOp gIxL (dV 2) (dOp gMod (dOp gAdd (dV 3) (dOp gMul (dV 4) (dV 5))) (dC (.int 41)))) [some .tape, some (.fr (.int (m : Int))), some (.fr (.lst (sL NM))), some (.fr (.int (r : Int))), some (.fr (.int (s : Int))), none] (rangeD 0 m) (some t2) = .ok (sL (nmA r s m)) (some t2) := by
    have e0 : rangeD 0 m = (List.range m).map fun i : Nat => DD.int (i : Int) := by
      unfold rangeD
      exact List.map_congr_left fun i _ => by simp
    have e3 : sL (nmA r s m) = (List.range m).map fun i => DD.str (S (NM.getD ((r + s * i) % 41) [])) := by
      unfold sL nmA
      rw [List.map_map]; rfl
    rw [e0, e3]
    refine lcL_mapOf (mk := fun i : Nat => DD.int (i : Int)) (f := fun i => DD.str (S (NM.getD ((r + s * i) % 41) []))) fun i hi => ⟨_, tgF_nm, ?_⟩
    have hi := List.mem_range.mp hi
    have cm : CMul (s : Int) (i : Int) := .inl ⟨by omega, by omega⟩
    have l1 : (r + s * i) % 41 < NM.length := by rw [NM_len]; omega
    have em : ((r : Int) + (s : Int) * (i : Int)) % 41 = (((r + s * i) % 41 : Nat) : Int) := by push_cast; rfl
    have at1 : atI (sL NM) (((r : Int) + (s : Int) * (i : Int)) % 41) = some (.str (S (NM.getD ((r + s * i) % 41) []))) := by
      rw [em]
      refine atI_nat ?_
      unfold sL
      rw [List.getElem?_map, List.getElem?_eq_getElem l1, List.getD_eq_getElem?_getD, List.getElem?_eq_getElem l1]; rfl
    generalize NM.getD ((r + s * i) % 41) [] = Z at *
    simp (disch := first | omega | (simp <;> omega) | fail) [if_pos, cm, at1]
  refine ⟨nmA r s m, t2, ?_, by unfold nmA; simp, nmA_ok, nmA_nd (by omega) hs3 hm, T2⟩
  simp (disch := first | omega | (simp <;> omega) | fail) [if_pos, d__law_names, b__law_names, b__law_names_1, b__law_names_2, b__law_names_3, b__law_names_4, b__law_names_5, ev_body, startP, List.replicate, e1, e2, hs', NM_eq, lc]
theorem form_ok {n : Nat} {t : Tau} (h : Tn n t) (hn : n < 2 ^ 50) : ∃ (a b c : Nat) (t' : Tau), d__law_form [.tape] (some t) = .ok (.tup [.int (a : Int), .int (b : Int), .int (c : Int)]) (some t') ∧ 1 ≤ a ∧ a ≤ 6 ∧ 16 ≤ b ∧ b ≤ 40 ∧ 6 ≤ c ∧ c ≤ 60 ∧ Tn (n + 6) t' := by
  obtain ⟨r1, t1, e1, a1, b1, T1⟩ := draw_ok h (by omega) (m := 9) (by decide) (by decide)
  by_cases q : r1 = 0
  · subst q
    refine ⟨6, 40, 60, t1, ?_, by decide, by decide, by decide, by decide, by decide, by decide, T1.mono (by omega)⟩
    simp (disch := first | omega | (simp <;> omega) | fail) [if_pos, d__law_form, b__law_form, ev_body, startP, List.replicate, e1]
  · obtain ⟨r2, t2, e2, a2, b2, T2⟩ := draw_ok T1 (by omega) (m := 2) (by decide) (by decide)
    obtain ⟨m, hm, m0, m1⟩ : ∃ m : Int, atI [DD.int 3, DD.int 6] r2 = some (.int m) ∧ 0 < m ∧ m ≤ 6 := by
      have : r2 = 0 ∨ r2 = 1 := by omega
      rcases this with rfl | rfl
      · exact ⟨3, by simp, by decide, by decide⟩
      · exact ⟨6, by simp, by decide, by decide⟩
    obtain ⟨r3, t3, e3, a3, b3, T3⟩ := draw_ok T2 (by omega) (m := m) m0 (by omega)
    obtain ⟨r4, t4, e4, a4, b4, T4⟩ := draw_ok T3 (by omega) (m := 2) (by decide) (by decide)
    obtain ⟨k, hk, k0, k1⟩ : ∃ m : Int, atI [DD.int 25, DD.int 55] r4 = some (.int m) ∧ 0 < m ∧ m ≤ 55 := by
      have : r4 = 0 ∨ r4 = 1 := by omega
      rcases this with rfl | rfl
      · exact ⟨25, by simp, by decide, by decide⟩
      · exact ⟨55, by simp, by decide, by decide⟩
    obtain ⟨r5, t5, e5, a5, b5, T5⟩ := draw_ok T4 (by omega) (m := k) k0 (by omega)
    obtain ⟨r6, t6, e6, a6, b6, T6⟩ := draw_ok T5 (by omega) (m := 25) (by decide) (by decide)
    obtain ⟨x3, rfl⟩ := Int.eq_ofNat_of_zero_le a3
    obtain ⟨x5, rfl⟩ := Int.eq_ofNat_of_zero_le a5
    obtain ⟨x6, rfl⟩ := Int.eq_ofNat_of_zero_le a6
    refine ⟨1 + x3, 16 + x6, 6 + x5, t6, ?_, by omega, by omega, by omega, by omega, by omega, by omega, T6⟩
    simp (disch := first | omega | (simp <;> omega) | fail) [if_pos, d__law_form, b__law_form, b__law_form_1, b__law_form_2, ev_body, startP, List.replicate, e1, q, e2, hm, e3, e4, hk, e5, e6]
theorem foldl_max : ∀ (l : List Nat) (a : Nat), a ≤ l.foldl max a ∧ (∀ x ∈ l, x ≤ l.foldl max a) ∧ (l.foldl max a = a ∨ l.foldl max a ∈ l)
  | [], a => ⟨Nat.le_refl _, by simp, .inl rfl⟩
  | x :: l, a => by
    obtain ⟨h1, h2, h3⟩ := foldl_max l (max a x)
    simp only [List.foldl_cons]
    refine ⟨by omega, fun y hy => ?_, ?_⟩
    · rcases List.mem_cons.mp hy with rfl | hy
      · omega
      · exact h2 y hy
    · rcases h3 with h3 | h3
      · rcases Nat.le_total a x with h | h
        · exact .inr (by rw [h3, Nat.max_eq_right h]; simp)
        · exact .inl (by rw [h3, Nat.max_eq_left h])
      · exact .inr (List.mem_cons_of_mem _ h3)
theorem max_ok {α : Type} {f : α → Nat} {xs : List α} (h : xs ≠ []) : gMaxL (.lst (xs.map fun x => .int (f x : Int))) = some (.int (((xs.map f).foldl max 0 : Nat) : Int)) := by
  cases xs with
  | nil => exact absurd rfl h
  | cons x xs =>
    show (match ints? ((x :: xs).map fun x => DD.int (f x : Int)) with
      | some (n :: ns) => some (DD.int (maxL n ns))
      | _ => none) = _
    rw [ints?_mapf (f := fun x => (f x : Int))]
    simp only [List.map_cons]
    obtain ⟨a, b, c⟩ := maxL_max (f x : Int) (xs.map fun x => (f x : Int))
    obtain ⟨d1, d2, d3⟩ := foldl_max ((x :: xs).map f) 0
    simp only [List.map_cons] at d1 d2 d3
    have e : maxL (f x : Int) (xs.map fun x => (f x : Int)) = (((f x :: xs.map f).foldl max 0 : Nat) : Int) := by
      apply Int.le_antisymm
      · rcases a with a | a
        · rw [a]
          have := d2 (f x) (by simp)
          omega
        · obtain ⟨y, hy, e⟩ := List.mem_map.mp a
          rw [← e]
          have := d2 (f y) (List.mem_cons_of_mem _ (List.mem_map.mpr ⟨y, hy, rfl⟩))
          omega
      · have hx := b
        rcases d3 with d3 | d3
        · rw [d3]; omega
        · rcases List.mem_cons.mp d3 with d3 | d3
          · rw [d3]; exact b
          · obtain ⟨y, hy, e⟩ := List.mem_map.mp d3
            rw [← e]
            exact c _ (List.mem_map.mpr ⟨y, hy, rfl⟩)
    rw [e]
structure Nt where
  n : List Nat
  s : Nat
  x : List Nat
def ntD (q : Nt) : DD := .tup [.str (S q.n), .int (q.s : Int), .str (S q.x)]
def wdt (b s : Nat) : Nat := s * b + (s - 1) * 3 - 4
def rowsB (b : Nat) (q : Nt) : List (List Nat) := frL (adR (wdt b q.s) q.x) (wdt b q.s)
def hgt (b : Nat) (q : Nt) : Nat := (rowsB b q).length
def blk (b : Nat) (q : Nt) : DD := bD (rowsB b q) (wdt b q.s + 4)
structure NtG (a : Nat) (q : Nt) : Prop where
  s0 : 1 ≤ q.s
  s1 : q.s ≤ a
  xl : q.x.length ≤ 1930
  xc : Cp q.x
theorem wdt_eq {b s : Nat} (h1 : 1 ≤ s) (h2 : s ≤ 6) (h3 : 16 ≤ b) (h4 : b ≤ 40) : (s : Int) * (b : Int) + ((s : Int) - 1) * 3 = ((wdt b s : Nat) : Int) + 4 ∧ 12 ≤ wdt b s ∧ wdt b s ≤ 260 := by
  have : s = 1 ∨ s = 2 ∨ s = 3 ∨ s = 4 ∨ s = 5 ∨ s = 6 := by omega
  unfold wdt
  rcases this with rfl | rfl | rfl | rfl | rfl | rfl <;> omega
theorem blk_ok {a b : Nat} {q : Nt} {p0 p2 : DD} (hq : NtG a q) (ha : a ≤ 6) (h3 : 16 ≤ b) (h4 : b ≤ 40) {τ : TS'} : d_ad_block [.fr (.tup [p0, .int (b : Int), p2]), .fr (ntD q)] τ = .ok (blk b q) τ := by
  have s0 := hq.s0
  have s1 := hq.s1
  obtain ⟨h1, h2, h5⟩ := wdt_eq (s := q.s) s0 (by omega) h3 h4
  exact ad_block_ok h1 (by omega) h4 h2 h5 hq.xl hq.xc
theorem hgt_len {a b : Nat} {q : Nt} (hq : NtG a q) (ha : a ≤ 6) (h3 : 16 ≤ b) (h4 : b ≤ 40) : 2 ≤ hgt b q ∧ hgt b q ≤ 1940 := by
  have s0 := hq.s0
  have s1 := hq.s1
  obtain ⟨h1, h2, h5⟩ := wdt_eq (s := q.s) s0 (by omega) h3 h4
  have := (adR_bk (w := wdt b q.s) (x := q.x) (by omega) hq.xl hq.xc).n
  unfold hgt rowsB frL
  simp
  omega
theorem blk_len {a b : Nat} {q : Nt} (hq : NtG a q) (ha : a ≤ 6) (h3 : 16 ≤ b) (h4 : b ≤ 40) {τ : TS'} : d_BlockD_lenD [.fr (blk b q)] τ = .ok (.int ((hgt b q : Nat) : Int)) τ := by
  have s0 := hq.s0
  have s1 := hq.s1
  obtain ⟨h1, h2, h5⟩ := wdt_eq (s := q.s) s0 (by omega) h3 h4
  have k := (adR_bk (w := wdt b q.s) (x := q.x) (by omega) hq.xl hq.xc).fr
  exact len_ok k (by omega)
/-- the highest top of some neighbouring columns -/
def topO (ts : List Nat) (b s : Nat) : Nat := ((ts.drop b).take s).foldl max 0
def keyL (ts : List Nat) (s b : Nat) : PyData := .tuple [.int ((topO ts b s : Nat) : Int), .int (0 - (b : Int))]
/-- the column from which it lies lowest -/
def low (a : Nat) (ts : List Nat) (s : Nat) : Nat := bestD ((List.range (a - s + 1)).map (keyL ts s))
theorem low_lt (a : Nat) (ts : List Nat) (s : Nat) : low a ts s < a - s + 1 := by
  unfold low bestD
  rw [List.length_map, List.length_range]
  have := argBest_le (fun i j => PySem.W.dataLt (((List.range (a - s + 1)).map (keyL ts s)).getD i .none) (((List.range (a - s + 1)).map (keyL ts s)).getD j .none)) (a - s + 1 - 1)
  omega
def lift (ts : List Nat) (b : Nat) (v : Nat) : Nat → List Nat
  | 0 => ts
  | s + 1 => (lift ts b v s).set (b + s) v
theorem lift_len {ts : List Nat} {b v : Nat} : ∀ s, (lift ts b v s).length = ts.length
  | 0 => rfl
  | s + 1 => by rw [lift, List.length_set, lift_len]
theorem lift_get {ts : List Nat} {b v : Nat} (i : Nat) : ∀ s, (lift ts b v s)[i]? = if b ≤ i ∧ i < b + s ∧ i < ts.length then some v else ts[i]?
  | 0 => by rw [if_neg (by omega)]; rfl
  | s + 1 => by
    rw [lift, List.getElem?_set, lift_get i s, lift_len]
    by_cases h : b + s = i
    · subst h
      by_cases h2 : b + s < ts.length
      · rw [if_pos rfl, if_pos h2, if_pos (by omega)]
      · rw [if_pos rfl, if_neg h2, if_neg (by omega)]
        exact (List.getElem?_eq_none (by omega)).symm
    · rw [if_neg h]
      by_cases h2 : b ≤ i ∧ i < b + s ∧ i < ts.length
      · rw [if_pos h2, if_pos (by omega)]
      · rw [if_neg h2, if_neg (by omega)]
structure Sp4 where
  n : List Nat
  at' : Nat
  y : Nat
  h : Nat
def spD (p : Sp4) : DD := .tup [.str (S p.n), .int (p.at' : Int), .int (p.y : Int), .int (p.h : Int)]
structure Fo where
  ts : List Nat
  sp : List Sp4
  bl : List DD
  un : List (List Nat)
def fo0 (a : Nat) : Fo := ⟨List.replicate a 0, [], [], []⟩
def put1 (a b c kp : Nat) (F : Fo) (q : Nt) : Fo :=
  if c < topO F.ts (low a F.ts q.s) q.s + hgt b q + kp then { F with un := F.un ++ [q.n] }
  else ⟨lift F.ts (low a F.ts q.s) (topO F.ts (low a F.ts q.s) q.s + hgt b q) q.s, F.sp ++ [⟨q.n, low a F.ts q.s, c - topO F.ts (low a F.ts q.s) q.s - hgt b q, hgt b q⟩], F.bl ++ [blk b q], F.un⟩
def stL (a b c kp : Nat) (qs : List Nt) : Fo := qs.foldl (put1 a b c kp) (fo0 a)
structure FoG (a c n : Nat) (F : Fo) : Prop where
  l : F.ts.length = a
  t : ∀ t ∈ F.ts, t ≤ c
  sl : F.sp.length ≤ n
  bl : F.bl.length ≤ n
  ul : F.un.length ≤ n
theorem top_le {ts : List Nat} {c : Nat} (h : ∀ t ∈ ts, t ≤ c) (b s : Nat) : topO ts b s ≤ c := by
  obtain ⟨_, _, h3⟩ := foldl_max ((ts.drop b).take s) 0
  unfold topO
  rcases h3 with h3 | h3
  · rw [h3]; exact Nat.zero_le _
  · exact h _ (List.drop_subset _ _ (List.take_subset _ _ h3))
theorem fo0_g (a c : Nat) : FoG a c 0 (fo0 a) := ⟨by simp [fo0], fun t h => by have := List.eq_of_mem_replicate h; omega, Nat.le_refl _, Nat.le_refl _, Nat.le_refl _⟩
theorem put_g {a b c kp n : Nat} {F : Fo} {q : Nt} (h : FoG a c n F) : FoG a c (n + 1) (put1 a b c kp F q) := by
  unfold put1
  split
  · exact ⟨h.l, h.t, by have := h.sl; show F.sp.length ≤ _; omega, by have := h.bl; show F.bl.length ≤ _; omega, by have := h.ul; simp; omega⟩
  · refine ⟨by rw [lift_len]; exact h.l, fun t ht => ?_, by have := h.sl; simp; omega, by have := h.bl; simp; omega, by have := h.ul; show F.un.length ≤ _; omega⟩
    obtain ⟨i, hi⟩ := List.getElem?_of_mem ht
    rw [lift_get] at hi
    split at hi
    · cases hi; omega
    · exact h.t _ (List.mem_of_getElem? hi)
def stX (t : Tau) (ns : List Nd) : Tau := { t with st := t.st ++ ns }
theorem push_stX {t : Tau} {nd : Nd} : pushSt t nd = stX t [nd] := rfl
@[simp] theorem stX_push {t : Tau} {ns : List Nd} {nd : Nd} : pushSt (stX t ns) nd = stX t (ns ++ [nd]) := by
  unfold pushSt stX
  simp
@[simp] theorem stX_len {t : Tau} {ns : List Nd} : (stX t ns).st.length = t.st.length + ns.length := by
  unfold stX
  simp
theorem stX_0 {t : Tau} {nd : Nd} {ns : List Nd} : (stX t (nd :: ns)).st[t.st.length]? = some nd := by
  unfold stX
  simp
theorem stX_put0 {t : Tau} {nd nd' : Nd} {ns : List Nd} : putSt (stX t (nd :: ns)) t.st.length nd' = stX t (nd' :: ns) := by
  unfold putSt stX
  dsimp only
  rw [List.set_append_right _ _ (Nat.le_refl _), Nat.sub_self]
  rfl
@[simp] theorem eSFSet2_stX {cls f : PySem.Str} {fs : List (PySem.Str × DD)} {ρ : PEnv} {d : DD} {t : Tau} {ns : List Nd} : eSFSet2 (.ok (.ptr t.st.length) (some (stX t (.obj cls fs :: ns)))) cls f ρ d = if fs.length < 1000 then .ok (.nx ρ) (some (stX t (.obj cls (putD f d fs) :: ns))) else .no := by
  rw [eSFSet2_at stX_0, stX_put0]
theorem stX_get {t : Tau} {ns : List Nd} {i : Nat} : (stX t ns).st[t.st.length + i]? = ns[i]? := by
  unfold stX
  rw [List.getElem?_append_right (by omega)]
  congr 1
  omega
theorem stX_set {t : Tau} {ns : List Nd} {i : Nat} {nd : Nd} : ({ stX t ns with st := (stX t ns).st.set (t.st.length + i) nd } : Tau) = stX t (ns.set i nd) := by
  unfold stX
  dsimp only
  rw [List.set_append_right _ _ (by omega)]
  congr 2
  congr 1
  omega
theorem Tn.stX {N : Nat} {t : Tau} {ns : List Nd} (h : Tn N t) : Tn N (stX t ns) := ⟨h.a0, h.a1, h.l0⟩
def fsS (f : DD) (kp : Nat) (n : Nat) : List (PySem.Str × DD) := [("form", f), ("keep", .int (kp : Int)), ("tops", .ptr (n + 1)), ("spots", .ptr (n + 2)), ("blocks", .ptr (n + 3)), ("unstood", .ptr (n + 4))]
theorem fs_1 (a b : DD) : putD "keep" b [("form", a)] = ([("form", a), ("keep", b)] : List (PySem.Str × DD)) := by kernel_rfl
theorem fs_2 (a b c : DD) : putD "tops" c [("form", a), ("keep", b)] = ([("form", a), ("keep", b), ("tops", c)] : List (PySem.Str × DD)) := by kernel_rfl
theorem fs_3 (a b c d : DD) : putD "spots" d [("form", a), ("keep", b), ("tops", c)] = ([("form", a), ("keep", b), ("tops", c), ("spots", d)] : List (PySem.Str × DD)) := by kernel_rfl
theorem fs_4 (a b c d e : DD) : putD "blocks" e [("form", a), ("keep", b), ("tops", c), ("spots", d)] = ([("form", a), ("keep", b), ("tops", c), ("spots", d), ("blocks", e)] : List (PySem.Str × DD)) := by kernel_rfl
theorem fs_5 (a b c d e g : DD) : putD "unstood" g [("form", a), ("keep", b), ("tops", c), ("spots", d), ("blocks", e)] = ([("form", a), ("keep", b), ("tops", c), ("spots", d), ("blocks", e), ("unstood", g)] : List (PySem.Str × DD)) := by kernel_rfl
theorem fl_form (f : DD) (kp n : Nat) : List.lookup (Str.ofString "form") (fsS f kp n) = some f := by kernel_rfl
theorem fl_keep (f : DD) (kp n : Nat) : List.lookup (Str.ofString "keep") (fsS f kp n) = some (.int (kp : Int)) := by kernel_rfl
theorem fl_tops (f : DD) (kp n : Nat) : List.lookup (Str.ofString "tops") (fsS f kp n) = some (.ptr (n + 1)) := by kernel_rfl
theorem fl_spots (f : DD) (kp n : Nat) : List.lookup (Str.ofString "spots") (fsS f kp n) = some (.ptr (n + 2)) := by kernel_rfl
theorem fl_blocks (f : DD) (kp n : Nat) : List.lookup (Str.ofString "blocks") (fsS f kp n) = some (.ptr (n + 3)) := by kernel_rfl
theorem fl_unstood (f : DD) (kp n : Nat) : List.lookup (Str.ofString "unstood") (fsS f kp n) = some (.ptr (n + 4)) := by kernel_rfl
theorem fl_over (f : DD) (kp n : Nat) : List.lookup (Str.ofString "top_over") (fsS f kp n) = none := by kernel_rfl
theorem fl_lowest (f : DD) (kp n : Nat) : List.lookup (Str.ofString "lowest") (fsS f kp n) = none := by kernel_rfl
theorem fl_put (f : DD) (kp n : Nat) : List.lookup (Str.ofString "put") (fsS f kp n) = none := by kernel_rfl
def natD (ts : List Nat) : List DD := ts.map fun t : Nat => .int (t : Int)
def ndsS (f : DD) (kp n : Nat) (F : Fo) : List Nd := [.obj "Stand" (fsS f kp n), .lst (natD F.ts), .lst (F.sp.map spD), .lst F.bl, .lst (sL F.un)]
def SD (t : Tau) (f : DD) (kp : Nat) (F : Fo) : Tau := stX t (ndsS f kp t.st.length F)
theorem natD_len (ts : List Nat) : (natD ts).length = ts.length := by unfold natD; rw [List.length_map]
theorem natD_rep (a : Nat) : natD (List.replicate a 0) = List.replicate a (DD.int 0) := by
  unfold natD
  rw [List.map_replicate]
  rfl
theorem init_stand {a kp : Nat} {p1 p2 : DD} {t : Tau} (ha : a ≤ 6) : d_StandD_initD [.fr (.ptr t.st.length), .fr (.tup [.int (a : Int), p1, p2]), .fr (.int (kp : Int))] (some (pushSt t (.obj "Stand" []))) = .ok .non (some (SD t (.tup [.int (a : Int), p1, p2]) kp (fo0 a))) := by
  have e0 : ∀ d : DD, putD "form" d [] = ([("form", d)] : List (PySem.Str × DD)) := fun d => by kernel_rfl
  have r := natD_rep a
  have tn : ((a : Int)).toNat = a := by omega
  rw [push_stX]
  show _ = R.ok DD.non (some (stX t [.obj "Stand" [("form", _), ("keep", .int (kp : Int)), ("tops", .ptr (t.st.length + 1)), ("spots", .ptr (t.st.length + 2)), ("blocks", .ptr (t.st.length + 3)), ("unstood", .ptr (t.st.length + 4))], .lst (natD (List.replicate a 0)), .lst [], .lst [], .lst []]))
  rw [r]
  simp (disch := first | omega | (simp <;> omega) | fail) [if_pos, d_StandD_initD, b_StandD_initD, b_StandD_initD_1, b_StandD_initD_2, b_StandD_initD_3, b_StandD_initD_4, b_StandD_initD_5, ev_body, startP, List.replicate, e0, fs_1, fs_2, fs_3, fs_4, fs_5, tn]
theorem sd_obj {t : Tau} {f : DD} {kp : Nat} {F : Fo} : objAt (SD t f kp F).st t.st.length = some (Str.ofString "Stand", fsS f kp t.st.length) := objAt_at stX_0
theorem sd_1 {t : Tau} {f : DD} {kp : Nat} {F : Fo} : (SD t f kp F).st[t.st.length + 1]? = some (.lst (natD F.ts)) := stX_get
theorem sd_2 {t : Tau} {f : DD} {kp : Nat} {F : Fo} : (SD t f kp F).st[t.st.length + 2]? = some (.lst (F.sp.map spD)) := stX_get
theorem sd_3 {t : Tau} {f : DD} {kp : Nat} {F : Fo} : (SD t f kp F).st[t.st.length + 3]? = some (.lst F.bl) := stX_get
theorem sd_4 {t : Tau} {f : DD} {kp : Nat} {F : Fo} : (SD t f kp F).st[t.st.length + 4]? = some (.lst (sL F.un)) := stX_get
theorem sd_put1 {t : Tau} {f : DD} {kp : Nat} {F : Fo} {ts : List Nat} : ({ SD t f kp F with st := (SD t f kp F).st.set (t.st.length + 1) (.lst (natD ts)) } : Tau) = SD t f kp { F with ts := ts } := stX_set
theorem sd_put2 {t : Tau} {f : DD} {kp : Nat} {F : Fo} {p : Sp4} : ({ SD t f kp F with st := (SD t f kp F).st.set (t.st.length + 2) (.lst (F.sp.map spD ++ [spD p])) } : Tau) = SD t f kp { F with sp := F.sp ++ [p] } := by
  have e : F.sp.map spD ++ [spD p] = (F.sp ++ [p]).map spD := by simp
  rw [e]
  exact stX_set
theorem sd_put3 {t : Tau} {f : DD} {kp : Nat} {F : Fo} {d : DD} : ({ SD t f kp F with st := (SD t f kp F).st.set (t.st.length + 3) (.lst (F.bl ++ [d])) } : Tau) = SD t f kp { F with bl := F.bl ++ [d] } := stX_set
theorem sd_put4 {t : Tau} {f : DD} {kp : Nat} {F : Fo} {x : List Nat} : ({ SD t f kp F with st := (SD t f kp F).st.set (t.st.length + 4) (.lst (sL F.un ++ [.str (S x)])) } : Tau) = SD t f kp { F with un := F.un ++ [x] } := by
  have e : sL F.un ++ [DD.str (S x)] = sL (F.un ++ [x]) := by unfold sL; simp
  rw [e]
  exact stX_set
theorem top_D {ts : List Nat} {b s : Nat} (h1 : 1 ≤ s) (h : b + s ≤ ts.length) : gMaxL (.lst (cutL (natD ts) (some (b : Int)) (some ((b : Int) + (s : Int))))) = some (.int ((topO ts b s : Nat) : Int)) := by
  have e : cutL (natD ts) (some (b : Int)) (some ((b : Int) + (s : Int))) = ((ts.drop b).take s).map fun x : Nat => DD.int (x : Int) := by
    rw [cutL_in (by omega) (by omega) (by rw [natD_len]; omega)]
    unfold natD
    rw [show ((b : Int)).toNat = b from by omega, show ((b : Int) + (s : Int)).toNat - b = s from by omega, ← List.map_drop, ← List.map_take]
  rw [e]
  have hne : (ts.drop b).take s ≠ [] := fun z => by
    have := congrArg List.length z
    simp at this
    omega
  have q := max_ok (f := fun x : Nat => x) hne
  rw [List.map_id'] at q
  exact q
theorem over_ok {t : Tau} {f : DD} {kp : Nat} {F : Fo} {b s : Nat} (h1 : 1 ≤ s) (h : b + s ≤ F.ts.length) (hl : F.ts.length ≤ 6) : d_Stand_top_over [.fr (.ptr t.st.length), .fr (.int (b : Int)), .fr (.int (s : Int))] (some (SD t f kp F)) = .ok (.int ((topO F.ts b s : Nat) : Int)) (some (SD t f kp F)) := by
  have m := top_D h1 h
  have o := sd_obj (t := t) (f := f) (kp := kp) (F := F)
  have l := lstAt_at (sd_1 (t := t) (f := f) (kp := kp) (F := F))
  have g := fl_tops f kp t.st.length
  generalize SD t f kp F = Z at *
  generalize fsS f kp t.st.length = FS at *
  generalize natD F.ts = D at *
  generalize hc : cutL D (some (b : Int)) (some ((b : Int) + (s : Int))) = C at *
  simp (disch := first | omega | (simp <;> omega) | fail) [if_pos, d_Stand_top_over, b_Stand_top_over, ev_body, startP, List.replicate, eSFld_at o, g, eSSl3_at l, hc, m]
theorem low_ok {t : Tau} {p1 p2 : DD} {kp a : Nat} {F : Fo} {s : Nat} (h1 : 1 ≤ s) (h : s ≤ a) (hl : F.ts.length = a) (ha : a ≤ 6) : d_Stand_lowest [.fr (.ptr t.st.length), .fr (.int (s : Int))] (some (SD t (.tup [.int (a : Int), p1, p2]) kp F)) = .ok (.int ((low a F.ts s : Nat) : Int)) (some (SD t (.tup [.int (a : Int), p1, p2]) kp F)) := by
  have hlt := low_lt a F.ts s
  have tn : ((a : Int) - (s : Int) + 1).toNat = a - s + 1 := by omega
  have rg : rangeD 0 (a - s + 1) = (List.range (a - s + 1)).map fun i : Nat => DD.int (i : Int) := by
    unfold rangeD
    exact List.map_congr_left fun i _ => by simp
  have ro : rgOk 0 ((a : Int) - (s : Int) + 1) := by unfold rgOk; omega
  have q := bestSt_eq (e := dTup (dCons (dSMeN 3 "Stand" "top_over" d_Stand_top_over (dV 0) (dpCons (dpE (dV 3)) (dpCons (dpE (dV 1)) dpNil))) (dCons (dOp Np.gSub (dC (.int 0)) (dV 3)) dNil))) (a := dCons (dV 2) dNil) (i := 3)
    (ρ := [some (.fr (.ptr t.st.length)), some (.fr (.int (s : Int))), some (.fr (.lst (rangeD 0 (a - s + 1)))), none]) (τ := some (SD t (.tup [.int (a : Int), p1, p2]) kp F)) (τ1 := some (SD t (.tup [.int (a : Int), p1, p2]) kp F)) (g := fun i : Nat => DD.int (i : Int)) (f := fun i => ((topO F.ts i s : Nat) : Int)) (h := fun i : Nat => 0 - (i : Int)) (best := bestD) (xs := List.range (a - s + 1)) (d := .int ((low a F.ts s : Nat) : Int)) (by
      rw [rg]
      generalize (List.range (a - s + 1)).map (fun i : Nat => DD.int (i : Int)) = D at *
      simp (disch := first | omega | (simp <;> omega) | fail) [if_pos, ]) (fun i hi => by
      have hi := List.mem_range.mp hi
      have o := over_ok (t := t) (f := .tup [.int (a : Int), p1, p2]) (kp := kp) (F := F) (b := i) (s := s) h1 (by omega) (by omega)
      have ob := sd_obj (t := t) (f := .tup [.int (a : Int), p1, p2]) (kp := kp) (F := F)
      have g := fl_over (.tup [.int (a : Int), p1, p2]) kp t.st.length
      generalize SD t (.tup [.int (a : Int), p1, p2]) kp F = Z at *
      generalize fsS (.tup [.int (a : Int), p1, p2]) kp t.st.length = FS at *
      generalize rangeD 0 (a - s + 1) = RR at *
      simp (disch := first | omega | (simp <;> omega) | fail) [if_pos, eSMeN1_at ob, g, o]) (by
      have hb : bestD ((List.range (a - s + 1)).map fun x : Nat => PyData.tuple [.int ((topO F.ts x s : Nat) : Int), .int (0 - (x : Int))]) = low a F.ts s := rfl
      rw [hb, List.getElem?_map, List.getElem?_range hlt]; rfl)
  have ob := sd_obj (t := t) (f := .tup [.int (a : Int), p1, p2]) (kp := kp) (F := F)
  have g := fl_form (.tup [.int (a : Int), p1, p2]) kp t.st.length
  generalize SD t (.tup [.int (a : Int), p1, p2]) kp F = Z at *
  generalize fsS (.tup [.int (a : Int), p1, p2]) kp t.st.length = FS at *
  unfold d_Stand_lowest
  simp (disch := first | omega | (simp <;> omega) | fail) [if_pos, ev_body, startP, List.replicate, b_Stand_lowest, b_Stand_lowest_1, eSFld_at ob, g, ro, tn, q]
theorem ixN_at {n i : Nat} (h : i < n) : ixN n (i : Int) = some i := by
  unfold ixN
  rw [if_pos (by omega), if_pos (by omega)]
  congr 1
theorem natD_set {ts : List Nat} {i v : Nat} : (natD ts).set i (.int (v : Int)) = natD (ts.set i v) := by
  unfold natD
  rw [List.map_set]
theorem put_loop {t : Tau} {f : DD} {kp a at' s v hg : Nat} {F : Fo} {o1 o2 o3 o4 o5 q9 : Option PV} {tp : Nat} (hl : F.ts.length = a) (ha : a ≤ 6) (h : at' + s ≤ a) (hv : v = tp + hg) :
    ∃ q, forL (.nm 9) b_Stand_put_L1 (rangeD (at' : Int) s) [some (.fr (.ptr t.st.length)), o1, o2, o3, o4, o5, some (.fr (.int (hg : Int))), some (.fr (.int (at' : Int))), some (.fr (.int (tp : Int))), q9] (some (SD t f kp F)) =
      .ok (.nx [some (.fr (.ptr t.st.length)), o1, o2, o3, o4, o5, some (.fr (.int (hg : Int))), some (.fr (.int (at' : Int))), some (.fr (.int (tp : Int))), q]) (some (SD t f kp { F with ts := lift F.ts at' v s })) := by
  obtain ⟨ρ2, τ2, e2, q, rfl, rfl⟩ := forL_inv (t := .nm 9) (δ := b_Stand_put_L1) (ds := rangeD (at' : Int) s) (ρ := [some (.fr (.ptr t.st.length)), o1, o2, o3, o4, o5, some (.fr (.int (hg : Int))), some (.fr (.int (at' : Int))), some (.fr (.int (tp : Int))), q9]) (τ := some (SD t f kp F))
    (fun i ρ τ => ∃ q, ρ = [some (.fr (.ptr t.st.length)), o1, o2, o3, o4, o5, some (.fr (.int (hg : Int))), some (.fr (.int (at' : Int))), some (.fr (.int (tp : Int))), q] ∧ τ = some (SD t f kp { F with ts := lift F.ts at' v i }))
    ⟨q9, rfl, rfl⟩ (by
      rintro i d ρ τ hd ⟨q, rfl, rfl⟩
      obtain ⟨hi, rfl⟩ := rangeD_get hd
      refine ⟨_, tgF_nm, _, _, .inl ?_, some (.fr (.int ((at' : Int) + (i : Int)))), rfl, rfl⟩
      have ob := sd_obj (t := t) (f := f) (kp := kp) (F := { F with ts := lift F.ts at' v i })
      have g := fl_tops f kp t.st.length
      have hq := sd_1 (t := t) (f := f) (kp := kp) (F := { F with ts := lift F.ts at' v i })
      have pt := sd_put1 (t := t) (f := f) (kp := kp) (F := { F with ts := lift F.ts at' v i }) (ts := lift F.ts at' v (i + 1))
      have ll := lift_len (ts := F.ts) (b := at') (v := v) i
      have st : (natD (lift F.ts at' v i)).set (at' + i) (.int (v : Int)) = natD (lift F.ts at' v (i + 1)) := by rw [natD_set]; rfl
      have ix := ixN_at (n := (natD (lift F.ts at' v i)).length) (i := at' + i) (by rw [natD_len]; omega)
      have r := stPut_ok (ρ := [some (.fr (.ptr t.st.length)), o1, o2, o3, o4, o5, some (.fr (.int (hg : Int))), some (.fr (.int (at' : Int))), some (.fr (.int (tp : Int))), some (.fr (.int ((at' : Int) + (i : Int))))]) (τ := some (SD t f kp { F with ts := lift F.ts at' v i })) (e := dOp gAdd (dV 8) (dV 6)) (x := dSFld "Stand" "tops" (dV 0)) (k := dV 9) (τ1 := some (SD t f kp { F with ts := lift F.ts at' v i })) (τ2 := some (SD t f kp { F with ts := lift F.ts at' v i })) (t := SD t f kp { F with ts := lift F.ts at' v i }) (d := .int (v : Int)) (q := t.st.length + 1) (n := (at' : Int) + (i : Int)) (j := at' + i) (by
        clear hq pt
        generalize SD t f kp { F with ts := lift F.ts at' v i } = Z at *
        simp (disch := first | omega | (simp <;> omega) | fail) [if_pos, hv]) (by
        clear hq pt
        generalize SD t f kp { F with ts := lift F.ts at' v i } = Z at *
        generalize fsS f kp t.st.length = FS at *
        simp (disch := first | omega | (simp <;> omega) | fail) [if_pos, eSFld_at ob, g]) (by
        clear hq pt
        generalize SD t f kp { F with ts := lift F.ts at' v i } = Z at *
        simp (disch := first | omega | (simp <;> omega) | fail) [if_pos, ]) hq (by exact_mod_cast ix)
      refine r.trans ?_
      dsimp only
      rw [st]
      exact congrArg (fun z => R.ok _ (some z)) pt)
  rw [rangeD_len] at *
  exact ⟨q, e2⟩
theorem put_ok {t : Tau} {a b c kp n : Nat} {F : Fo} {q : Nt} (hq : NtG a q) (ha : a ≤ 6) (h3 : 16 ≤ b) (h4 : b ≤ 40) (hc : c ≤ 200) (hk : kp ≤ 200) (g : FoG a c n F) (hn : n ≤ 1000) :
    d_Stand_put [.fr (.ptr t.st.length), .fr (ntD q)] (some (SD t (.tup [.int (a : Int), .int (b : Int), .int (c : Int)]) kp F)) = .ok .non (some (SD t (.tup [.int (a : Int), .int (b : Int), .int (c : Int)]) kp (put1 a b c kp F q))) := by
  have s0 := hq.s0
  have s1 := hq.s1
  have e1 := blk_ok (p0 := .int (a : Int)) (p2 := .int (c : Int)) hq ha h3 h4 (τ := some (SD t (.tup [.int (a : Int), .int (b : Int), .int (c : Int)]) kp F))
  have e2 := blk_len hq ha h3 h4 (τ := some (SD t (.tup [.int (a : Int), .int (b : Int), .int (c : Int)]) kp F))
  obtain ⟨hg0, hg1⟩ := hgt_len hq ha h3 h4
  have e3 := low_ok (t := t) (p1 := .int (b : Int)) (p2 := .int (c : Int)) (kp := kp) (F := F) s0 s1 g.l ha
  have lt := low_lt a F.ts q.s
  have e4 := over_ok (t := t) (f := .tup [.int (a : Int), .int (b : Int), .int (c : Int)]) (kp := kp) (F := F) (b := low a F.ts q.s) s0 (by rw [g.l]; omega) (by rw [g.l]; exact ha)
  have tl := top_le g.t (low a F.ts q.s) q.s
  have f1 := fl_form (.tup [.int (a : Int), .int (b : Int), .int (c : Int)]) kp t.st.length
  have f2 := fl_keep (.tup [.int (a : Int), .int (b : Int), .int (c : Int)]) kp t.st.length
  have f3 := fl_over (.tup [.int (a : Int), .int (b : Int), .int (c : Int)]) kp t.st.length
  have f4 := fl_lowest (.tup [.int (a : Int), .int (b : Int), .int (c : Int)]) kp t.st.length
  have f5 := fl_unstood (.tup [.int (a : Int), .int (b : Int), .int (c : Int)]) kp t.st.length
  have f6 := fl_spots (.tup [.int (a : Int), .int (b : Int), .int (c : Int)]) kp t.st.length
  have f7 := fl_blocks (.tup [.int (a : Int), .int (b : Int), .int (c : Int)]) kp t.st.length
  have ob : ∀ F, objAt (SD t (.tup [.int (a : Int), .int (b : Int), .int (c : Int)]) kp F).st t.st.length = some (Str.ofString "Stand", fsS (.tup [.int (a : Int), .int (b : Int), .int (c : Int)]) kp t.st.length) := fun F => sd_obj
  have lp := fun F' : Fo => fun h : F'.ts.length = a => put_loop (t := t) (f := .tup [.int (a : Int), .int (b : Int), .int (c : Int)]) (kp := kp) (F := F') (a := a) (at' := low a F.ts q.s) (s := q.s) (v := topO F.ts (low a F.ts q.s) q.s + hgt b q) (hg := hgt b q) (tp := topO F.ts (low a F.ts q.s) q.s) (o1 := some (.fr (ntD q))) (o2 := some (.fr (.str (S q.n)))) (o3 := some (.fr (.int (q.s : Int)))) (o4 := some (.fr (.str (S q.x)))) (o5 := some (.fr (blk b q))) (q9 := none) h ha (by omega) rfl
  obtain ⟨FB, hb⟩ : ∃ fs, blk b q = .obj (Str.ofString "Block") fs := ⟨_, rfl⟩
  have sz : sizeLine = 16777216 := rfl
  unfold put1
  by_cases hc2 : c < topO F.ts (low a F.ts q.s) q.s + hgt b q + kp
  · rw [if_pos hc2]
    have st := (stApp_ok (ρ := [some (.fr (.ptr t.st.length)), some (.fr (ntD q)), some (.fr (.str (S q.n))), some (.fr (.int (q.s : Int))), some (.fr (.str (S q.x))), some (.fr (blk b q)), some (.fr (.int (hgt b q : Int))), some (.fr (.int (low a F.ts q.s : Int))), some (.fr (.int (topO F.ts (low a F.ts q.s) q.s : Int))), none])
      (τ := some (SD t (.tup [.int (a : Int), .int (b : Int), .int (c : Int)]) kp F)) (t1 := SD t (.tup [.int (a : Int), .int (b : Int), .int (c : Int)]) kp F) (x := dSFld "Stand" "unstood" (dV 0)) (e := dV 2) (d := .str (S q.n)) (q := t.st.length + 4) (t := SD t (.tup [.int (a : Int), .int (b : Int), .int (c : Int)]) kp F) (by
        have ob := ob F
        clear lp e1 e2 e3 e4
        generalize SD t (.tup [.int (a : Int), .int (b : Int), .int (c : Int)]) kp F = Z at *
        generalize fsS (.tup [.int (a : Int), .int (b : Int), .int (c : Int)]) kp t.st.length = FS at *
        simp (disch := first | omega | (simp <;> omega) | fail) [if_pos, eSFld_at ob, f5]) (isLst_at sd_4) (by
        have ob := ob F
        clear lp e1 e2 e3 e4
        generalize SD t (.tup [.int (a : Int), .int (b : Int), .int (c : Int)]) kp F = Z at *
        generalize fsS (.tup [.int (a : Int), .int (b : Int), .int (c : Int)]) kp t.st.length = FS at *
        simp (disch := first | omega | (simp <;> omega) | fail) [if_pos, ]) sd_4 (by have := g.ul; rw [sL_len]; omega)).trans (congrArg (fun z => R.ok _ (some z)) sd_put4)
    have ob := ob F
    clear lp
    generalize SD t (.tup [.int (a : Int), .int (b : Int), .int (c : Int)]) kp { F with un := F.un ++ [q.n] } = Z2 at *
    generalize SD t (.tup [.int (a : Int), .int (b : Int), .int (c : Int)]) kp F = Z at *
    generalize fsS (.tup [.int (a : Int), .int (b : Int), .int (c : Int)]) kp t.st.length = FS at *
    rw [hb] at e1 e2 st
    generalize hgt b q = hh at *
    generalize topO F.ts (low a F.ts q.s) q.s = tt at *
    generalize low a F.ts q.s = ll at *
    unfold ntD at *
    have hc3 : (c : Int) < (tt : Int) + (hh : Int) + (kp : Int) := by omega
    simp (disch := first | omega | (simp <;> omega) | fail) [if_pos, d_Stand_put, b_Stand_put, b_Stand_put_1, b_Stand_put_2, b_Stand_put_3, b_Stand_put_4, b_Stand_put_5, ev_body, startP, List.replicate, eSFld_at ob, eSMeN1_at ob, f1, f2, f3, f4, e1, e2, e3, e4, st, hc3]
  · rw [if_neg hc2]
    have cs : ((c : Int) - ((topO F.ts (low a F.ts q.s) q.s : Nat) : Int) - ((hgt b q : Nat) : Int)) = ((c - topO F.ts (low a F.ts q.s) q.s - hgt b q : Nat) : Int) := by omega
    have st1 := (stApp_ok (ρ := [some (.fr (.ptr t.st.length)), some (.fr (ntD q)), some (.fr (.str (S q.n))), some (.fr (.int (q.s : Int))), some (.fr (.str (S q.x))), some (.fr (blk b q)), some (.fr (.int (hgt b q : Int))), some (.fr (.int (low a F.ts q.s : Int))), some (.fr (.int (topO F.ts (low a F.ts q.s) q.s : Int))), none])
      (τ := some (SD t (.tup [.int (a : Int), .int (b : Int), .int (c : Int)]) kp F)) (t1 := SD t (.tup [.int (a : Int), .int (b : Int), .int (c : Int)]) kp F) (x := dSFld "Stand" "spots" (dV 0)) (e := dTup (dCons (dV 2) (dCons (dV 7) (dCons (dOp Np.gSub (dOp Np.gSub (dOp gIxT (dSFld "Stand" "form" (dV 0)) (dC (.int 2))) (dV 8)) (dV 6)) (dCons (dV 6) dNil))))) (d := spD ⟨q.n, low a F.ts q.s, c - topO F.ts (low a F.ts q.s) q.s - hgt b q, hgt b q⟩) (q := t.st.length + 2) (t := SD t (.tup [.int (a : Int), .int (b : Int), .int (c : Int)]) kp F) (by
        have ob := ob F
        clear lp e1 e2 e3 e4
        generalize SD t (.tup [.int (a : Int), .int (b : Int), .int (c : Int)]) kp F = Z at *
        generalize fsS (.tup [.int (a : Int), .int (b : Int), .int (c : Int)]) kp t.st.length = FS at *
        simp (disch := first | omega | (simp <;> omega) | fail) [if_pos, eSFld_at ob, f6]) (isLst_at sd_2) (by
        have ob := ob F
        clear lp e1 e2 e3 e4
        generalize SD t (.tup [.int (a : Int), .int (b : Int), .int (c : Int)]) kp F = Z at *
        generalize fsS (.tup [.int (a : Int), .int (b : Int), .int (c : Int)]) kp t.st.length = FS at *
        simp (disch := first | omega | (simp <;> omega) | fail) [if_pos, eSFld_at ob, f1, cs, spD]) sd_2 (by have := g.sl; rw [List.length_map]; omega)).trans (congrArg (fun z => R.ok _ (some z)) sd_put2)
    have st2 := (stApp_ok (ρ := [some (.fr (.ptr t.st.length)), some (.fr (ntD q)), some (.fr (.str (S q.n))), some (.fr (.int (q.s : Int))), some (.fr (.str (S q.x))), some (.fr (blk b q)), some (.fr (.int (hgt b q : Int))), some (.fr (.int (low a F.ts q.s : Int))), some (.fr (.int (topO F.ts (low a F.ts q.s) q.s : Int))), none])
      (τ := some (SD t (.tup [.int (a : Int), .int (b : Int), .int (c : Int)]) kp { F with sp := F.sp ++ [⟨q.n, low a F.ts q.s, c - topO F.ts (low a F.ts q.s) q.s - hgt b q, hgt b q⟩] })) (t1 := SD t (.tup [.int (a : Int), .int (b : Int), .int (c : Int)]) kp { F with sp := F.sp ++ [⟨q.n, low a F.ts q.s, c - topO F.ts (low a F.ts q.s) q.s - hgt b q, hgt b q⟩] }) (x := dSFld "Stand" "blocks" (dV 0)) (e := dV 5) (d := blk b q) (q := t.st.length + 3) (t := SD t (.tup [.int (a : Int), .int (b : Int), .int (c : Int)]) kp { F with sp := F.sp ++ [⟨q.n, low a F.ts q.s, c - topO F.ts (low a F.ts q.s) q.s - hgt b q, hgt b q⟩] }) (by
        have ob := ob { F with sp := F.sp ++ [⟨q.n, low a F.ts q.s, c - topO F.ts (low a F.ts q.s) q.s - hgt b q, hgt b q⟩] }
        clear lp e1 e2 e3 e4
        generalize SD t (.tup [.int (a : Int), .int (b : Int), .int (c : Int)]) kp { F with sp := F.sp ++ [⟨q.n, low a F.ts q.s, c - topO F.ts (low a F.ts q.s) q.s - hgt b q, hgt b q⟩] } = Z at *
        generalize fsS (.tup [.int (a : Int), .int (b : Int), .int (c : Int)]) kp t.st.length = FS at *
        simp (disch := first | omega | (simp <;> omega) | fail) [if_pos, eSFld_at ob, f7]) (isLst_at sd_3) (by
        have ob := ob { F with sp := F.sp ++ [⟨q.n, low a F.ts q.s, c - topO F.ts (low a F.ts q.s) q.s - hgt b q, hgt b q⟩] }
        clear lp e1 e2 e3 e4
        generalize SD t (.tup [.int (a : Int), .int (b : Int), .int (c : Int)]) kp { F with sp := F.sp ++ [⟨q.n, low a F.ts q.s, c - topO F.ts (low a F.ts q.s) q.s - hgt b q, hgt b q⟩] } = Z at *
        generalize fsS (.tup [.int (a : Int), .int (b : Int), .int (c : Int)]) kp t.st.length = FS at *
        simp (disch := first | omega | (simp <;> omega) | fail) [if_pos, ]) sd_3 (by have := g.bl; show F.bl.length < _; omega)).trans (congrArg (fun z => R.ok _ (some z)) sd_put3)
    obtain ⟨q9, lp⟩ := lp ⟨F.ts, F.sp ++ [⟨q.n, low a F.ts q.s, c - topO F.ts (low a F.ts q.s) q.s - hgt b q, hgt b q⟩], F.bl ++ [blk b q], F.un⟩ g.l
    change forL _ _ _ _ (some (SD t (.tup [.int (a : Int), .int (b : Int), .int (c : Int)]) kp ⟨F.ts, F.sp ++ [⟨q.n, low a F.ts q.s, c - topO F.ts (low a F.ts q.s) q.s - hgt b q, hgt b q⟩], F.bl ++ [blk b q], F.un⟩)) = _ at lp
    have ob1 := ob { F with sp := F.sp ++ [⟨q.n, low a F.ts q.s, c - topO F.ts (low a F.ts q.s) q.s - hgt b q, hgt b q⟩] }
    have ob2 := ob ⟨F.ts, F.sp ++ [⟨q.n, low a F.ts q.s, c - topO F.ts (low a F.ts q.s) q.s - hgt b q, hgt b q⟩], F.bl ++ [blk b q], F.un⟩
    have ob := ob F
    change _ = R.ok (Ct.nx _) (some (SD t (.tup [.int (a : Int), .int (b : Int), .int (c : Int)]) kp ⟨F.ts, F.sp ++ [⟨q.n, low a F.ts q.s, c - topO F.ts (low a F.ts q.s) q.s - hgt b q, hgt b q⟩], F.bl ++ [blk b q], F.un⟩)) at st2
    change _ = R.ok (Ct.nx _) (some (SD t (.tup [.int (a : Int), .int (b : Int), .int (c : Int)]) kp ⟨lift F.ts (low a F.ts q.s) (topO F.ts (low a F.ts q.s) q.s + hgt b q) q.s, F.sp ++ [⟨q.n, low a F.ts q.s, c - topO F.ts (low a F.ts q.s) q.s - hgt b q, hgt b q⟩], F.bl ++ [blk b q], F.un⟩)) at lp
    generalize SD t (.tup [.int (a : Int), .int (b : Int), .int (c : Int)]) kp ⟨lift F.ts (low a F.ts q.s) (topO F.ts (low a F.ts q.s) q.s + hgt b q) q.s, F.sp ++ [⟨q.n, low a F.ts q.s, c - topO F.ts (low a F.ts q.s) q.s - hgt b q, hgt b q⟩], F.bl ++ [blk b q], F.un⟩ = Z3 at *
    generalize SD t (.tup [.int (a : Int), .int (b : Int), .int (c : Int)]) kp ⟨F.ts, F.sp ++ [⟨q.n, low a F.ts q.s, c - topO F.ts (low a F.ts q.s) q.s - hgt b q, hgt b q⟩], F.bl ++ [blk b q], F.un⟩ = Z2 at *
    generalize SD t (.tup [.int (a : Int), .int (b : Int), .int (c : Int)]) kp { F with sp := F.sp ++ [⟨q.n, low a F.ts q.s, c - topO F.ts (low a F.ts q.s) q.s - hgt b q, hgt b q⟩] } = Z1 at *
    generalize SD t (.tup [.int (a : Int), .int (b : Int), .int (c : Int)]) kp F = Z at *
    generalize fsS (.tup [.int (a : Int), .int (b : Int), .int (c : Int)]) kp t.st.length = FS at *
    rw [hb] at e1 e2 st1 st2 lp
    generalize hgt b q = hh at *
    generalize topO F.ts (low a F.ts q.s) q.s = tt at *
    generalize low a F.ts q.s = ll at *
    have hc3 : ¬ (c : Int) < (tt : Int) + (hh : Int) + (kp : Int) := by omega
    have tn : ((ll : Int) + (q.s : Int) - (ll : Int)).toNat = q.s := by omega
    unfold ntD at *
    simp (disch := first | omega | (simp <;> omega) | fail) [if_pos, d_Stand_put, b_Stand_put, b_Stand_put_1, b_Stand_put_2, b_Stand_put_3, b_Stand_put_4, b_Stand_put_5, ev_body, startP, List.replicate, eSFld_at ob, eSMeN1_at ob, f1, f2, f3, f4, e1, e2, e3, e4, b_Stand_put_6, b_Stand_put_7, b_Stand_put_8, st1, st2, lp, hc3, tn]
theorem stL_g {a b c kp : Nat} : ∀ (qs : List Nt) (F : Fo) (n : Nat), FoG a c n F → FoG a c (n + qs.length) (qs.foldl (put1 a b c kp) F)
  | [], F, n, h => h
  | q :: qs, F, n, h => by
    rw [List.foldl_cons, List.length_cons, show n + (qs.length + 1) = n + 1 + qs.length from by omega]
    exact stL_g qs _ _ (put_g h)
theorem stood_ok {t : Tau} {a b c kp : Nat} {qs : List Nt} (hq : ∀ q ∈ qs, NtG a q) (ha : a ≤ 6) (h3 : 16 ≤ b) (h4 : b ≤ 40) (hc : c ≤ 200) (hk : kp ≤ 200) (hl : qs.length ≤ 900) :
    d_stood [.fr (.tup [.int (a : Int), .int (b : Int), .int (c : Int)]), .fr (.lst (qs.map ntD)), .fr (.int (kp : Int))] (some t) = .ok (.ptr t.st.length) (some (SD t (.tup [.int (a : Int), .int (b : Int), .int (c : Int)]) kp (stL a b c kp qs))) := by
  have e1 := init_stand (kp := kp) (p1 := .int (b : Int)) (p2 := .int (c : Int)) (t := t) ha
  have mk : dMkSN 3 2 0 "Stand" d_StandD_initD (pickL [] [.a 0, .a 1]) (dpCons (dpE (dV 0)) (dpCons (dpE (dV 2)) dpNil)) dpNil [some (.fr (.tup [.int (a : Int), .int (b : Int), .int (c : Int)])), some (.fr (.lst (qs.map ntD))), some (.fr (.int (kp : Int))), none, none] (some t) =
      .ok (.ptr t.st.length) (some (SD t (.tup [.int (a : Int), .int (b : Int), .int (c : Int)]) kp (fo0 a))) := by
    refine mkSN_ok (as := [.fr (.tup [.int (a : Int), .int (b : Int), .int (c : Int)]), .fr (.int (kp : Int))]) (bs := []) (τ1 := some t) (τ2 := some t) ?_ ?_ rfl rfl ?_
    · generalize qs.map ntD = D at *
      simp (disch := first | omega | (simp <;> omega) | fail) [if_pos, ]
    · simp (disch := first | omega | (simp <;> omega) | fail) [if_pos, ]
    · rw [mkS_ok]
      generalize SD t (.tup [.int (a : Int), .int (b : Int), .int (c : Int)]) kp (fo0 a) = Z at *
      simp (disch := first | omega | (simp <;> omega) | fail) [if_pos, pickL, pick1, List.filterMap, e1]
  obtain ⟨ρ2, τ2, e2, q4, rfl, rfl⟩ := forL_inv (t := .nm 4) (δ := b_stood_L1) (ds := qs.map ntD) (ρ := [some (.fr (.tup [.int (a : Int), .int (b : Int), .int (c : Int)])), some (.fr (.lst (qs.map ntD))), some (.fr (.int (kp : Int))), some (.fr (.ptr t.st.length)), none]) (τ := some (SD t (.tup [.int (a : Int), .int (b : Int), .int (c : Int)]) kp (fo0 a)))
    (fun i ρ τ => ∃ q4, ρ = [some (.fr (.tup [.int (a : Int), .int (b : Int), .int (c : Int)])), some (.fr (.lst (qs.map ntD))), some (.fr (.int (kp : Int))), some (.fr (.ptr t.st.length)), q4] ∧ τ = some (SD t (.tup [.int (a : Int), .int (b : Int), .int (c : Int)]) kp (stL a b c kp (qs.take i))))
    ⟨none, rfl, rfl⟩ (by
      rintro i d ρ τ hd ⟨q4, rfl, rfl⟩
      rw [List.getElem?_map] at hd
      obtain ⟨q, hq2, rfl⟩ := Option.map_eq_some_iff.mp hd
      have hi := (List.getElem?_eq_some_iff.mp hq2).1
      refine ⟨_, tgF_nm, _, _, .inl ?_, some (.fr (ntD q)), rfl, rfl⟩
      have ob := sd_obj (t := t) (f := .tup [.int (a : Int), .int (b : Int), .int (c : Int)]) (kp := kp) (F := stL a b c kp (qs.take i))
      have g := fl_put (.tup [.int (a : Int), .int (b : Int), .int (c : Int)]) kp t.st.length
      have gg := stL_g (b := b) (kp := kp) (qs.take i) _ _ (fo0_g a c)
      have pk := put_ok (t := t) (kp := kp) (hq q (List.mem_of_getElem? hq2)) ha h3 h4 hc hk gg (by rw [List.length_take]; omega)
      have st : put1 a b c kp (stL a b c kp (qs.take i)) q = stL a b c kp (qs.take (i + 1)) := by
        unfold stL
        rw [List.take_add_one, hq2]
        simp
      change d_Stand_put _ (some (SD t _ kp (stL a b c kp (qs.take i)))) = .ok _ (some (SD t _ kp (put1 a b c kp (stL a b c kp (qs.take i)) q))) at pk
      rw [st] at pk
      generalize SD t (.tup [.int (a : Int), .int (b : Int), .int (c : Int)]) kp (stL a b c kp (qs.take (i + 1))) = Z2 at *
      generalize SD t (.tup [.int (a : Int), .int (b : Int), .int (c : Int)]) kp (stL a b c kp (qs.take i)) = Z at *
      generalize fsS (.tup [.int (a : Int), .int (b : Int), .int (c : Int)]) kp t.st.length = FS at *
      generalize ntD q = QQ at *
      generalize qs.map ntD = D at *
      simp (disch := first | omega | (simp <;> omega) | fail) [if_pos, b_stood_L1, eSMeN1_at ob, g, pk])
  rw [List.length_map, List.take_length] at e2
  generalize SD t (.tup [.int (a : Int), .int (b : Int), .int (c : Int)]) kp (stL a b c kp qs) = Z2 at *
  generalize SD t (.tup [.int (a : Int), .int (b : Int), .int (c : Int)]) kp (fo0 a) = Z at *
  generalize qs.map ntD = D at *
  simp (disch := first | omega | (simp <;> omega) | fail) [if_pos, d_stood, b_stood, b_stood_1, b_stood_2, ev_body, startP, List.replicate, mk, e2]
def SA (t : Tau) (f : DD) (kp : Nat) (F : Fo) : Tau := stX t (ndsS f kp t.st.length F ++ [.lst (F.sp.map spD), .lst (sL F.un)])
def ptrs (p : Nat × Nat) : DD := .tup [.ptr p.1, .ptr p.2]
theorem sa_push {t : Tau} {f : DD} {kp : Nat} {F : Fo} : pushSt (pushSt (SD t f kp F) (.lst (F.sp.map spD))) (.lst (sL F.un)) = SA t f kp F := by
  unfold SD SA
  rw [stX_push, stX_push, List.append_assoc]
  rfl
theorem sa_5 {t : Tau} {f : DD} {kp : Nat} {F : Fo} : (SA t f kp F).st[t.st.length + 5]? = some (.lst (F.sp.map spD)) := stX_get
theorem sa_6 {t : Tau} {f : DD} {kp : Nat} {F : Fo} : (SA t f kp F).st[t.st.length + 6]? = some (.lst (sL F.un)) := stX_get
theorem sa_old {t : Tau} {f : DD} {kp : Nat} {F : Fo} {k : Nat} {nd : Nd} (h : t.st[k]? = some nd) : (SA t f kp F).st[k]? = some nd := by
  unfold SA stX
  rw [List.getElem?_append_left (List.getElem?_eq_some_iff.mp h).1]
  exact h
theorem ads_ok {t : Tau} {a b c kp : Nat} {qs : List Nt} (hq : ∀ q ∈ qs, NtG a q) (ha : a ≤ 6) (h3 : 16 ≤ b) (h4 : b ≤ 40) (hc : c ≤ 200) (hk : kp ≤ 200) (hl : qs.length ≤ 900) :
    d_stand_ads [.fr (.tup [.int (a : Int), .int (b : Int), .int (c : Int)]), .fr (.lst (qs.map ntD)), .fr (.int (kp : Int))] (some t) = .ok (ptrs (t.st.length + 5, t.st.length + 6)) (some (SA t (.tup [.int (a : Int), .int (b : Int), .int (c : Int)]) kp (stL a b c kp qs))) := by
  have e1 := stood_ok (t := t) hq ha h3 h4 hc hk hl
  have ob := sd_obj (t := t) (f := .tup [.int (a : Int), .int (b : Int), .int (c : Int)]) (kp := kp) (F := stL a b c kp qs)
  have l2 := lstAt_at (sd_2 (t := t) (f := .tup [.int (a : Int), .int (b : Int), .int (c : Int)]) (kp := kp) (F := stL a b c kp qs))
  have o4 : (pushSt (SD t (.tup [.int (a : Int), .int (b : Int), .int (c : Int)]) kp (stL a b c kp qs)) (.lst ((stL a b c kp qs).sp.map spD))).st[t.st.length + 4]? = some (.lst (sL (stL a b c kp qs).un)) := by
    unfold SD
    rw [stX_push]
    exact stX_get
  have ob2 : objAt (pushSt (SD t (.tup [.int (a : Int), .int (b : Int), .int (c : Int)]) kp (stL a b c kp qs)) (.lst ((stL a b c kp qs).sp.map spD))).st t.st.length = some (Str.ofString "Stand", fsS (.tup [.int (a : Int), .int (b : Int), .int (c : Int)]) kp t.st.length) := by
    unfold SD
    rw [stX_push]
    exact objAt_at stX_0
  have l4 := lstAt_at o4
  have g2 := fl_spots (.tup [.int (a : Int), .int (b : Int), .int (c : Int)]) kp t.st.length
  have g4 := fl_unstood (.tup [.int (a : Int), .int (b : Int), .int (c : Int)]) kp t.st.length
  have n5 : (SD t (.tup [.int (a : Int), .int (b : Int), .int (c : Int)]) kp (stL a b c kp qs)).st.length = t.st.length + 5 := by unfold SD; rw [stX_len]; rfl
  have n6 : (pushSt (SD t (.tup [.int (a : Int), .int (b : Int), .int (c : Int)]) kp (stL a b c kp qs)) (.lst ((stL a b c kp qs).sp.map spD))).st.length = t.st.length + 6 := by
    unfold SD
    rw [stX_push, stX_len]
    rfl
  have ps := sa_push (t := t) (f := .tup [.int (a : Int), .int (b : Int), .int (c : Int)]) (kp := kp) (F := stL a b c kp qs)
  generalize SA t (.tup [.int (a : Int), .int (b : Int), .int (c : Int)]) kp (stL a b c kp qs) = Z3 at *
  generalize hz2 : pushSt (SD t (.tup [.int (a : Int), .int (b : Int), .int (c : Int)]) kp (stL a b c kp qs)) (.lst ((stL a b c kp qs).sp.map spD)) = Z2 at *
  generalize SD t (.tup [.int (a : Int), .int (b : Int), .int (c : Int)]) kp (stL a b c kp qs) = Z at *
  generalize fsS (.tup [.int (a : Int), .int (b : Int), .int (c : Int)]) kp t.st.length = FS at *
  generalize (stL a b c kp qs).sp.map spD = D2 at *
  generalize sL (stL a b c kp qs).un = D4 at *
  generalize qs.map ntD = D at *
  unfold ptrs
  simp (disch := first | omega | (simp <;> omega) | fail) [if_pos, d_stand_ads, b_stand_ads, b_stand_ads_1, ev_body, startP, List.replicate, e1, eSFld_at ob, eSFld_at ob2, g2, g4, eSLstF_at l2, hz2, eSLstF_at l4, n5, n6, ps]
theorem vw_ptrs {t : Tau} {p : Nat × Nat} {xs ys : List DD} (h1 : t.st[p.1]? = some (.lst xs)) (h2 : t.st[p.2]? = some (.lst ys)) : vw t.st (ptrs p) = .tup [.lst xs, .lst ys] := by
  show DD.tup [vw1 t.st (.ptr p.1), vw1 t.st (.ptr p.2)] = _
  rw [vw1_at h1, vw1_at h2]
/-- a list of the store that isn't long -/
def LB (t : Tau) (n p : Nat) : Prop := ∃ xs, t.st[p]? = some (.lst xs) ∧ xs.length ≤ n
def setL1 (t : Tau) (q : Nat) (zs : List DD) : Tau := { t with st := t.st.set q (.lst zs) }
theorem LB.set {t : Tau} {n m p q : Nat} {zs : List DD} (h : LB t n p) (hn : n ≤ m) (hz : zs.length ≤ m) : LB (setL1 t q zs) m p := by
  obtain ⟨xs, e, hl⟩ := h
  by_cases c : p = q
  · subst c
    exact ⟨zs, by show (t.st.set p _)[p]? = _; rw [List.getElem?_set_self (List.getElem?_eq_some_iff.mp e).1], hz⟩
  · exact ⟨xs, by show (t.st.set q _)[p]? = _; rw [List.getElem?_set_ne (fun z => c z.symm)]; exact e, by omega⟩
theorem clr_loop {o0 o1 o2 o3 o4 o5 o6 o7 o8 o9 : Option PV} : ∀ (ps : List (Nat × Nat)) (n : Nat) (t : Tau) (o10 : Option PV), (∀ x ∈ ps, LB t n x.1 ∧ LB t n x.2) → n + ps.length ≤ 1000 →
    ∃ q10 st', forL (.nm 10) b_law_L3 (ps.map ptrs) [o0, o1, o2, o3, o4, o5, o6, o7, o8, o9, o10] (some t) = .ok (.nx [o0, o1, o2, o3, o4, o5, o6, o7, o8, o9, q10]) (some { t with st := st' })
  | [], n, t, o10, _, _ => ⟨o10, t.st, rfl⟩
  | p :: ps, n, t, o10, h, hn => by
    rw [List.length_cons] at hn
    obtain ⟨h1, h2⟩ := h p List.mem_cons_self
    obtain ⟨xs, e1, l1⟩ := h1
    have sz : sizeLine = 16777216 := rfl
    have a1 : dStApp (dOp gIxT (dV 10) (dC (.int 0))) (dC .non) [o0, o1, o2, o3, o4, o5, o6, o7, o8, o9, some (.fr (ptrs p))] (some t) = .ok (.nx [o0, o1, o2, o3, o4, o5, o6, o7, o8, o9, some (.fr (ptrs p))]) (some (setL1 t p.1 (xs ++ [.non]))) := stApp_ok (q := p.1) (t1 := t) (t := t) (by
      have i0 : ∀ a b : DD, atI [a, b] 0 = some a := fun _ _ => rfl
      unfold ptrs
      simp (disch := first | omega | (simp <;> omega) | fail) [if_pos, i0]) (isLst_at e1) (by simp (disch := first | omega | (simp <;> omega) | fail) [if_pos, ]) e1 (by omega)
    have h2' := h2.set (q := p.1) (zs := xs ++ [.non]) (m := n + 1) (by omega) (by simp; omega)
    obtain ⟨ys, e2, l2⟩ := h2'
    have a2 : dStClr (dOp gIxT (dV 10) (dC (.int 1))) [o0, o1, o2, o3, o4, o5, o6, o7, o8, o9, some (.fr (ptrs p))] (some (setL1 t p.1 (xs ++ [.non]))) = .ok (.nx [o0, o1, o2, o3, o4, o5, o6, o7, o8, o9, some (.fr (ptrs p))]) (some (setL1 (setL1 t p.1 (xs ++ [.non])) p.2 [])) := stClr_ok (q := p.2) (by
      have i1 : ∀ a b : DD, atI [a, b] 1 = some b := fun _ _ => rfl
      unfold ptrs
      simp (disch := first | omega | (simp <;> omega) | fail) [if_pos, i1]) e2
    have hs : ∀ x ∈ ps, LB (setL1 (setL1 t p.1 (xs ++ [.non])) p.2 []) (n + 1) x.1 ∧ LB (setL1 (setL1 t p.1 (xs ++ [.non])) p.2 []) (n + 1) x.2 := fun x hx => by
      obtain ⟨b1, b2⟩ := h x (List.mem_cons_of_mem _ hx)
      exact ⟨(b1.set (q := p.1) (zs := xs ++ [.non]) (m := n + 1) (by omega) (by simp; omega)).set (Nat.le_refl _) (by simp), (b2.set (q := p.1) (zs := xs ++ [.non]) (m := n + 1) (by omega) (by simp; omega)).set (Nat.le_refl _) (by simp)⟩
    obtain ⟨q10, st', e⟩ := clr_loop (o0 := o0) (o1 := o1) (o2 := o2) (o3 := o3) (o4 := o4) (o5 := o5) (o6 := o6) (o7 := o7) (o8 := o8) (o9 := o9) ps (n + 1) _ (some (.fr (ptrs p))) hs (by omega)
    refine ⟨q10, st', ?_⟩
    rw [List.map_cons, forL_nm]
    have b : b_law_L3 [o0, o1, o2, o3, o4, o5, o6, o7, o8, o9, some (.fr (ptrs p))] (some t) = .ok (.nx [o0, o1, o2, o3, o4, o5, o6, o7, o8, o9, some (.fr (ptrs p))]) (some (setL1 (setL1 t p.1 (xs ++ [.non])) p.2 [])) := by
      have b1 : b_law_L3_1 [o0, o1, o2, o3, o4, o5, o6, o7, o8, o9, some (.fr (ptrs p))] (some (setL1 t p.1 (xs ++ [.non]))) = _ := a2
      clear e hs e2 a2
      generalize ptrs p = PP at *
      simp [b_law_L3, a1, b1]
    show eTurn (b_law_L3 [o0, o1, o2, o3, o4, o5, o6, o7, o8, o9, some (.fr (ptrs p))] (some t)) _ _ _ = _
    rw [b, eTurn_nx]
    exact e
theorem keyL_neg (ts : List Nat) (s b : Nat) : keyL ts s b = PyData.tuple [.int ((topO ts b s : Nat) : Int), .int (-(b : Int))] := by
  unfold keyL
  rw [Int.zero_sub]
theorem min_low {ts : List Nat} {a s : Nat} : gMinLD (.lst ((List.range (a - s + 1)).map fun k : Nat => DD.tup [.int ((topO ts k s : Nat) : Int), .int (-(k : Int))])) = some (.tup [.int ((topO ts (low a ts s) s : Nat) : Int), .int (-((low a ts s : Nat) : Int))]) := by
  refine gMinLD_eq (g := fun k : Nat => DD.tup [.int ((topO ts k s : Nat) : Int), .int (-(k : Int))]) (p := keyL ts s) (xs := List.range (a - s + 1)) (fun k _ => ?_) ?_ ?_
  · rw [keyL_neg]; rfl
  · exact keys_pair (fun b : Nat => ((topO ts b s : Nat) : Int)) (fun b : Nat => 0 - (b : Int)) _
  · have h : bestD ((List.range (a - s + 1)).map (keyL ts s)) = low a ts s := rfl
    rw [h, List.getElem?_map, List.getElem?_range (low_lt a ts s)]
    rfl
theorem law_lift {a at' s tp hg : Nat} {ts : List Nat} (hl : ts.length = a) (ha : a ≤ 6) (h : at' + s ≤ a) {o0 o1 o2 o4 o5 o6 o7 o9 q10 o12 : Option PV} {τ : TS'} :
    ∃ q, forL (.nm 10) b__law_stood_L2 (rangeD (at' : Int) s) [o0, o1, o2, some (.ow (.lst (natD ts))), o4, o5, o6, o7, some (.fr (.int (hg : Int))), o9, q10, some (.fr (.int (tp : Int))), o12] τ =
      .ok (.nx [o0, o1, o2, some (.ow (.lst (natD (lift ts at' (tp + hg) s)))), o4, o5, o6, o7, some (.fr (.int (hg : Int))), o9, q, some (.fr (.int (tp : Int))), o12]) τ := by
  obtain ⟨ρ2, τ2, e2, q, rfl, rfl⟩ := forL_inv (t := .nm 10) (δ := b__law_stood_L2) (ds := rangeD (at' : Int) s) (ρ := [o0, o1, o2, some (.ow (.lst (natD ts))), o4, o5, o6, o7, some (.fr (.int (hg : Int))), o9, q10, some (.fr (.int (tp : Int))), o12]) (τ := τ)
    (fun i ρ τ' => ∃ q, ρ = [o0, o1, o2, some (.ow (.lst (natD (lift ts at' (tp + hg) i)))), o4, o5, o6, o7, some (.fr (.int (hg : Int))), o9, q, some (.fr (.int (tp : Int))), o12] ∧ τ' = τ)
    ⟨q10, rfl, rfl⟩ (by
      rintro i d ρ τ' hd ⟨q, rfl, rfl⟩
      obtain ⟨hi, rfl⟩ := rangeD_get hd
      refine ⟨_, tgF_nm, _, _, .inl ?_, some (.fr (.int ((at' : Int) + (i : Int)))), rfl, rfl⟩
      have ll := lift_len (ts := ts) (b := at') (v := tp + hg) i
      have st : (natD (lift ts at' (tp + hg) i)).set (at' + i) (.int ((tp : Int) + (hg : Int))) = natD (lift ts at' (tp + hg) (i + 1)) := by
        have e := natD_set (ts := lift ts at' (tp + hg) i) (i := at' + i) (v := tp + hg)
        rw [Int.natCast_add] at e
        rw [e]; rfl
      have ix := ixN_at (n := (natD (lift ts at' (tp + hg) i)).length) (i := at' + i) (by rw [natD_len]; omega)
      rw [Int.natCast_add] at ix
      rw [← st]
      generalize natD (lift ts at' (tp + hg) i) = D at *
      simp (disch := first | omega | (simp <;> omega) | fail) [if_pos, b__law_stood_L2, ix])
  rw [rangeD_len] at *
  exact ⟨q, e2⟩
theorem law_put {a b c kp n : Nat} {F : Fo} {q : Nt} {lf : List Nt} (hq : NtG a q) (ha : a ≤ 6) (h3 : 16 ≤ b) (h4 : b ≤ 40) (hc : c ≤ 200) (hk : kp ≤ 200) (g : FoG a c n F) (hn : n ≤ 1000) (hlf : lf.length ≤ 1000) {o1 o8 o9 o10 o11 o12 : Option PV} {τ : TS'} :
    ∃ lf' q8 q9 q10 q11 q12, lf'.length ≤ lf.length + 1 ∧ b__law_stood_L1 [some (.fr (.tup [.int (a : Int), .int (b : Int), .int (c : Int)])), o1, some (.fr (.int (kp : Int))), some (.ow (.lst (natD F.ts))), some (.ow (.lst (F.sp.map spD))), some (.ow (.lst (sL F.un))), some (.ow (.lst (lf.map ntD))), some (.fr (ntD q)), o8, o9, o10, o11, o12] τ =
      .ok (.nx [some (.fr (.tup [.int (a : Int), .int (b : Int), .int (c : Int)])), o1, some (.fr (.int (kp : Int))), some (.ow (.lst (natD (put1 a b c kp F q).ts))), some (.ow (.lst ((put1 a b c kp F q).sp.map spD))), some (.ow (.lst (sL (put1 a b c kp F q).un))), some (.ow (.lst (List.map ntD lf'))), some (.fr (ntD q)), q8, q9, q10, q11, q12]) τ := by
  have s0 := hq.s0
  have s1 := hq.s1
  obtain ⟨w1, w2, w3⟩ := wdt_eq (s := q.s) s0 (by omega) h3 h4
  have e1 := ad_rows_ok (p0 := .int (a : Int)) (p2 := .int (c : Int)) (nm := .str (S q.n)) w1 (by omega) h4 w2 w3 hq.xl hq.xc (τ := τ)
  obtain ⟨hg0, hg1⟩ := hgt_len hq ha h3 h4
  have hl : (sL (rowsB b q)).length = hgt b q := sL_len
  change d__law_ad_rows [.fr _, .fr (ntD q)] τ = .ok (.lst (sL (rowsB b q))) τ at e1
  have tl := top_le g.t (low a F.ts q.s) q.s
  have lt := low_lt a F.ts q.s
  have gl := g.l
  have lc : ∀ o8 o9 o10 o11 o12, lcL (.nm 10) dYes (dTup (dCons (dBor 3 (dCall (c1 gMaxL) (dCons (dSl gSlL (dV 3) (dPart (dV 10)) (dPart (dOp gAdd (dV 10) (dOp gIxT (dV 7) (dC (.int 1)))))) dNil))) (dCons (dUn gNeg (dV 10)) dNil))) [some (.fr (.tup [.int (a : Int), .int (b : Int), .int (c : Int)])), o1, some (.fr (.int (kp : Int))), some (.ow (.lst (natD F.ts))), some (.ow (.lst (F.sp.map spD))), some (.ow (.lst (sL F.un))), some (.ow (.lst (lf.map ntD))), some (.fr (ntD q)), o8, o9, o10, o11, o12] (rangeD 0 (a - q.s + 1)) τ = .ok ((List.range (a - q.s + 1)).map fun k : Nat => DD.tup [.int ((topO F.ts k q.s : Nat) : Int), .int (-(k : Int))]) τ := fun o8 o9 o10 o11 o12 => by
    have rg : rangeD 0 (a - q.s + 1) = (List.range (a - q.s + 1)).map fun i : Nat => DD.int (i : Int) := by
      unfold rangeD
      exact List.map_congr_left fun i _ => by simp
    rw [rg]
    refine lcL_mapOf (mk := fun i : Nat => DD.int (i : Int)) (f := fun k : Nat => DD.tup [.int ((topO F.ts k q.s : Nat) : Int), .int (-(k : Int))]) fun i hi => ⟨_, tgF_nm, ?_⟩
    have hi := List.mem_range.mp hi
    have m := top_D (ts := F.ts) (b := i) (s := q.s) s0 (by omega)
    have i1 : ∀ x y z : DD, atI [x, y, z] 1 = some y := fun _ _ _ => rfl
    generalize natD F.ts = D at *
    generalize F.sp.map spD = D2 at *
    generalize sL F.un = UU at *
    generalize lf.map ntD = LF at *
    generalize hcc : cutL D (some (i : Int)) (some ((i : Int) + (q.s : Int))) = C at *
    unfold ntD
    simp (disch := first | omega | (simp <;> omega) | fail) [if_pos, i1, hcc, m]
  have mn := min_low (ts := F.ts) (a := a) (s := q.s)
  have rl : ((List.range (a - q.s + 1)).map fun k : Nat => DD.tup [.int ((topO F.ts k q.s : Nat) : Int), .int (-(k : Int))]).length ≤ 7 := by rw [List.length_map, List.length_range]; omega
  have tn : ((a : Int) - (q.s : Int) + 1).toNat = a - q.s + 1 := by omega
  have i0 : ∀ x y z : DD, atI [x, y, z] 0 = some x := fun _ _ _ => rfl
  have i1 : ∀ x y z : DD, atI [x, y, z] 1 = some y := fun _ _ _ => rfl
  have i2 : ∀ x y z : DD, atI [x, y, z] 2 = some z := fun _ _ _ => rfl
  have lsp : (F.sp.map spD).length ≤ 1000 := by have := g.sl; rw [List.length_map]; omega
  have lun : (sL F.un).length ≤ 1000 := by have := g.ul; rw [sL_len]; omega
  have llf : (lf.map ntD).length ≤ 1000 := by rw [List.length_map]; omega
  unfold put1
  by_cases hc2 : c < topO F.ts (low a F.ts q.s) q.s + hgt b q + kp
  · rw [if_pos hc2]
    have un : sL (F.un ++ [q.n]) = sL F.un ++ [.str (S q.n)] := by unfold sL; simp
    refine ⟨lf, some (.fr (.int ((hgt b q : Nat) : Int))), some (.fr (.lst ((List.range (a - q.s + 1)).map fun k : Nat => DD.tup [.int ((topO F.ts k q.s : Nat) : Int), .int (-(k : Int))]))), o10, some (.fr (.int ((topO F.ts (low a F.ts q.s) q.s : Nat) : Int))), some (.fr (.int (-((low a F.ts q.s : Nat) : Int)))), by omega, ?_⟩
    · dsimp only
      rw [un]
      generalize (List.range (a - q.s + 1)).map (fun k : Nat => DD.tup [.int ((topO F.ts k q.s : Nat) : Int), .int (-(k : Int))]) = BG at *
      generalize natD F.ts = D at *
      generalize F.sp.map spD = D2 at *
      generalize sL F.un = UU at *
      generalize lf.map ntD = LF at *
      generalize sL (rowsB b q) = RB at *
      generalize hgt b q = hh at *
      generalize topO F.ts (low a F.ts q.s) q.s = tt at *
      generalize low a F.ts q.s = ll at *
      have hc3 : (c : Int) < (tt : Int) + (hh : Int) + (kp : Int) := by omega
      unfold ntD at *
      simp (disch := first | omega | (simp <;> omega) | fail) [if_pos, b__law_stood_L1, b__law_stood_L1_1, b__law_stood_L1_2, b__law_stood_L1_3, e1, hl, lc, mn, tn, i0, i1, i2, hc3]
  · rw [if_neg hc2]
    obtain ⟨q10, lp⟩ := law_lift (ts := F.ts) (at' := low a F.ts q.s) (s := q.s) (tp := topO F.ts (low a F.ts q.s) q.s) (hg := hgt b q) gl ha (by omega) (o0 := some (.fr (.tup [.int (a : Int), .int (b : Int), .int (c : Int)]))) (o1 := o1) (o2 := some (.fr (.int (kp : Int)))) (o4 := some (.ow (.lst (F.sp.map spD ++ [spD ⟨q.n, low a F.ts q.s, c - topO F.ts (low a F.ts q.s) q.s - hgt b q, hgt b q⟩])))) (o5 := some (.ow (.lst (sL F.un)))) (o6 := some (.ow (.lst (lf.map ntD ++ [ntD q])))) (o7 := some (.fr (ntD q))) (o9 := some (.fr (.lst ((List.range (a - q.s + 1)).map fun k : Nat => DD.tup [.int ((topO F.ts k q.s : Nat) : Int), .int (-(k : Int))])))) (q10 := o10) (o12 := some (.fr (.int (-((low a F.ts q.s : Nat) : Int))))) (τ := τ)
    have cs : ((c : Int) - ((topO F.ts (low a F.ts q.s) q.s : Nat) : Int) - ((hgt b q : Nat) : Int)) = ((c - topO F.ts (low a F.ts q.s) q.s - hgt b q : Nat) : Int) := by omega
    have sp2 : (F.sp ++ [(⟨q.n, low a F.ts q.s, c - topO F.ts (low a F.ts q.s) q.s - hgt b q, hgt b q⟩ : Sp4)]).map spD = F.sp.map spD ++ [spD ⟨q.n, low a F.ts q.s, c - topO F.ts (low a F.ts q.s) q.s - hgt b q, hgt b q⟩] := by simp
    have lf2 : List.map ntD (lf ++ [q]) = lf.map ntD ++ [ntD q] := by simp
    refine ⟨lf ++ [q], some (.fr (.int ((hgt b q : Nat) : Int))), some (.fr (.lst ((List.range (a - q.s + 1)).map fun k : Nat => DD.tup [.int ((topO F.ts k q.s : Nat) : Int), .int (-(k : Int))]))), q10, some (.fr (.int ((topO F.ts (low a F.ts q.s) q.s : Nat) : Int))), some (.fr (.int (-((low a F.ts q.s : Nat) : Int)))), by simp, ?_⟩
    · dsimp only
      rw [sp2, lf2]
      generalize (List.range (a - q.s + 1)).map (fun k : Nat => DD.tup [.int ((topO F.ts k q.s : Nat) : Int), .int (-(k : Int))]) = BG at *
      generalize natD (lift F.ts (low a F.ts q.s) (topO F.ts (low a F.ts q.s) q.s + hgt b q) q.s) = D3 at *
      generalize natD F.ts = D at *
      generalize F.sp.map spD = D2 at *
      generalize sL F.un = UU at *
      generalize lf.map ntD = LF at *
      generalize sL (rowsB b q) = RB at *
      generalize hgt b q = hh at *
      generalize topO F.ts (low a F.ts q.s) q.s = tt at *
      generalize low a F.ts q.s = ll at *
      have hc3 : ¬ (c : Int) < (tt : Int) + (hh : Int) + (kp : Int) := by omega
      have tn2 : ((q.s : Int) - -(ll : Int) - (ll : Int)).toNat = q.s := by omega
      unfold ntD spD at *
      dsimp only at lp
      simp (disch := first | omega | (simp <;> omega) | fail) [if_pos, b__law_stood_L1, b__law_stood_L1_1, b__law_stood_L1_2, b__law_stood_L1_3, e1, hl, lc, mn, tn, i0, i1, i2, hc3, cs, tn2, lp]
theorem stood_law {a b c kp : Nat} {qs : List Nt} (hq : ∀ q ∈ qs, NtG a q) (ha : a ≤ 6) (h3 : 16 ≤ b) (h4 : b ≤ 40) (hc : c ≤ 200) (hk : kp ≤ 200) (hl : qs.length ≤ 900) {τ : TS'} :
    ∃ x y, d__law_stood [.fr (.tup [.int (a : Int), .int (b : Int), .int (c : Int)]), .fr (.lst (qs.map ntD)), .fr (.int (kp : Int))] τ = .ok (.tup [.lst ((stL a b c kp qs).sp.map spD), .lst (sL (stL a b c kp qs).un), x, y]) τ := by
  obtain ⟨ρ2, τ2, e2, lf, q7, q8, q9, q10, q11, q12, hlf, rfl, rfl⟩ := forL_inv (t := .nm 7) (δ := b__law_stood_L1) (ds := qs.map ntD) (ρ := [some (.fr (.tup [.int (a : Int), .int (b : Int), .int (c : Int)])), some (.fr (.lst (qs.map ntD))), some (.fr (.int (kp : Int))), some (.ow (.lst (natD (fo0 a).ts))), some (.ow (.lst [])), some (.ow (.lst [])), some (.ow (.lst [])), none, none, none, none, none, none]) (τ := τ)
    (fun i ρ τ' => ∃ (lf : List Nt) (q7 q8 q9 q10 q11 q12 : Option PV), lf.length ≤ i ∧ ρ = [some (.fr (.tup [.int (a : Int), .int (b : Int), .int (c : Int)])), some (.fr (.lst (qs.map ntD))), some (.fr (.int (kp : Int))), some (.ow (.lst (natD (stL a b c kp (qs.take i)).ts))), some (.ow (.lst ((stL a b c kp (qs.take i)).sp.map spD))), some (.ow (.lst (sL (stL a b c kp (qs.take i)).un))), some (.ow (.lst (lf.map ntD))), q7, q8, q9, q10, q11, q12] ∧ τ' = τ)
    ⟨[], none, none, none, none, none, none, Nat.le_refl _, rfl, rfl⟩ (by
      rintro i d ρ τ' hd ⟨lf, q7, q8, q9, q10, q11, q12, hlf, rfl, rfl⟩
      rw [List.getElem?_map] at hd
      obtain ⟨q, hq2, rfl⟩ := Option.map_eq_some_iff.mp hd
      have hi := (List.getElem?_eq_some_iff.mp hq2).1
      have gg := stL_g (b := b) (kp := kp) (qs.take i) _ _ (fo0_g a c)
      have st : put1 a b c kp (stL a b c kp (qs.take i)) q = stL a b c kp (qs.take (i + 1)) := by
        unfold stL
        rw [List.take_add_one, hq2]
        simp
      obtain ⟨lf', z8, z9, z10, z11, z12, hl', e⟩ := law_put (F := stL a b c kp (qs.take i)) (lf := lf) (hq q (List.mem_of_getElem? hq2)) ha h3 h4 hc hk gg (by rw [List.length_take]; omega) (by omega) (o1 := some (.fr (.lst (qs.map ntD)))) (o8 := q8) (o9 := q9) (o10 := q10) (o11 := q11) (o12 := q12) (τ := τ')
      rw [st] at e
      exact ⟨_, tgF_nm, _, _, .inl e, lf', _, z8, z9, z10, z11, z12, by omega, rfl, rfl⟩)
  rw [List.length_map, List.take_length] at *
  have lc : ∀ o0' o1 o2 o3 o4 o5 o6 o7 o8 o9 o10 o11 o12, o0' = some (.fr (.tup [.int (a : Int), .int (b : Int), .int (c : Int)])) → lcL (.nm 11) dYes (dOp Np.gSub (dOp gIxT (dV 0) (dC (.int 2))) (dV 11)) [o0', o1, o2, o3, o4, o5, o6, o7, o8, o9, o10, o11, o12] (natD (stL a b c kp qs).ts) τ2 = .ok ((stL a b c kp qs).ts.map fun t : Nat => DD.int ((c : Int) - (t : Int))) τ2 := fun o0' o1 o2 o3 o4 o5 o6 o7 o8 o9 o10 o11 o12 h => by
    subst h
    refine lcL_mapOf (mk := fun t : Nat => DD.int (t : Int)) fun t ht => ⟨_, tgF_nm, ?_⟩
    have i2 : ∀ x y z : DD, atI [x, y, z] 2 = some z := fun _ _ _ => rfl
    simp (disch := first | omega | (simp <;> omega) | fail) [if_pos, i2]
  have gl := (stL_g (b := b) (kp := kp) qs _ _ (fo0_g a c)).l
  change (stL a b c kp qs).ts.length = a at gl
  have nl : (natD (stL a b c kp qs).ts).length ≤ 6 := by rw [natD_len]; omega
  refine ⟨.lst ((stL a b c kp qs).ts.map fun t : Nat => DD.int ((c : Int) - (t : Int))), .lst (lf.map ntD), ?_⟩
  have nr : natD (fo0 a).ts = List.replicate a (DD.int 0) := natD_rep a
  have i0 : ∀ x y z : DD, atI [x, y, z] 0 = some x := fun _ _ _ => rfl
  have tn : ((a : Int)).toNat = a := by omega
  rw [nr] at e2
  generalize natD (stL a b c kp qs).ts = D at *
  generalize ((stL a b c kp qs).ts.map fun t : Nat => DD.int ((c : Int) - (t : Int))) = D4 at *
  generalize (stL a b c kp qs).sp.map spD = D2 at *
  generalize sL (stL a b c kp qs).un = UU at *
  generalize lf.map ntD = LF at *
  generalize qs.map ntD = QQ at *
  simp (disch := first | omega | (simp <;> omega) | fail) [if_pos, d__law_stood, b__law_stood, b__law_stood_1, b__law_stood_2, ev_body, startP, List.replicate, i0, tn, e2, lc]
theorem ad_okN {n a : Nat} {t : Tau} {x : List Nat} {p1 p2 : DD} (h : Tn n t) (hn : n < 2 ^ 39) (ha : 1 ≤ a) (ha2 : a ≤ 6) : ∃ (q : Nt) (t' : Tau), d__law_ad [.tape, .fr (.tup [.int (a : Int), p1, p2]), .fr (.str (S x))] (some t) = .ok (ntD q) (some t') ∧ q.n = x ∧ NtG a q ∧ Tn (n + 210) t' := by
  obtain ⟨s, y, t', e, s1, s2, l, c, T⟩ := ad_ok (nm := .str (S x)) (p1 := p1) (p2 := p2) h hn ha ha2
  exact ⟨⟨x, s, y⟩, t', e, rfl, ⟨s1, s2, l, c⟩, T⟩
theorem ads_turn {n a i : Nat} {t : Tau} {xs : List (List Nat)} {qs : List Nt} {p1 p2 : DD} (h : Tn n t) (hn : n < 2 ^ 38) (ha : 1 ≤ a) (ha2 : a ≤ 6) (lx : xs.length = 8) (nx : ∀ x ∈ xs, Nm1 x) (hi : i < 8) (lq : qs.length ≤ 100) {o2 : Option PV} :
    ∃ q t', b__law_ads_L1 [some .tape, some (.fr (.tup [.int (a : Int), p1, p2])), o2, some (.fr (.lst (sL xs))), some (.ow (.lst (qs.map ntD))), some (.fr (.int (i : Int)))] (some t) = .ok (.nx [some .tape, some (.fr (.tup [.int (a : Int), p1, p2])), o2, some (.fr (.lst (sL xs))), some (.ow (.lst ((qs ++ [q]).map ntD))), some (.fr (.int (i : Int)))]) (some t') ∧ NtG a q ∧ Nm1 q.n ∧ Tn (n + 220) t' := by
  have at1 : ∀ j : Nat, (hj : j < 8) → atI (sL xs) (j : Int) = some (.str (S (xs[j]'(by omega)))) := fun j hj => atI_nat (j := j) (xs := sL xs) (by unfold sL; rw [List.getElem?_map, List.getElem?_eq_getElem (by omega)]; rfl)
  have key : ∀ (j : Nat) (hj : j < 8) (t1 : Tau), Tn (n + 4) t1 → ∃ q t', d__law_ad [.tape, .fr (.tup [.int (a : Int), p1, p2]), .fr (.str (S (xs[j]'(by omega))))] (some t1) = .ok (ntD q) (some t') ∧ NtG a q ∧ Nm1 q.n ∧ Tn (n + 220) t' := fun j hj t1 T => by
    obtain ⟨q, t', e, e2, g, T'⟩ := ad_okN (x := xs[j]'(by omega)) (p1 := p1) (p2 := p2) T (by omega) ha ha2
    exact ⟨q, t', e, g, by rw [e2]; exact nx _ (List.getElem_mem _), T'.mono (by omega)⟩
  have ql : (qs.map ntD).length ≤ 100 := by rw [List.length_map]; exact lq
  have mp : ∀ q, (qs ++ [q]).map ntD = qs.map ntD ++ [ntD q] := fun q => by simp
  by_cases c : 2 < i
  · have ci : (2 : Int) < (i : Int) := by omega
    obtain ⟨r1, t1, e1, a1, b1, T1⟩ := draw_ok h (by omega) (m := 9) (by decide) (by decide)
    by_cases z : r1 = 0
    · obtain ⟨q, t', e, g, nm, T'⟩ := key (i - 1) (by omega) t1 (T1.mono (by omega))
      refine ⟨q, t', ?_, g, nm, T'⟩
      have a2 := at1 (i - 1) (by omega)
      rw [show ((i - 1 : Nat) : Int) = (i : Int) - 1 from by omega] at a2
      rw [mp]
      generalize S (xs[i - 1]'(by omega)) = X at *
      generalize sL xs = XX at *
      generalize qs.map ntD = QQ at *
      generalize ntD q = Q1 at *
      subst z
      simp (disch := first | omega | (simp <;> omega) | fail) [if_pos, b__law_ads_L1, ci, e1, a2, e]
    · obtain ⟨q, t', e, g, nm, T'⟩ := key i hi t1 (T1.mono (by omega))
      refine ⟨q, t', ?_, g, nm, T'⟩
      have a2 := at1 i hi
      rw [mp]
      generalize S (xs[i]'(by omega)) = X at *
      generalize sL xs = XX at *
      generalize qs.map ntD = QQ at *
      generalize ntD q = Q1 at *
      simp (disch := first | omega | (simp <;> omega) | fail) [if_pos, b__law_ads_L1, ci, e1, z, a2, e]
  · have ci : ¬ (2 : Int) < (i : Int) := by omega
    obtain ⟨q, t', e, g, nm, T'⟩ := key i hi t (h.mono (by omega))
    refine ⟨q, t', ?_, g, nm, T'⟩
    have a2 := at1 i hi
    rw [mp]
    generalize S (xs[i]'(by omega)) = X at *
    generalize sL xs = XX at *
    generalize qs.map ntD = QQ at *
    generalize ntD q = Q1 at *
    simp (disch := first | omega | (simp <;> omega) | fail) [if_pos, b__law_ads_L1, ci, a2, e]
theorem ads_law {n a : Nat} {t : Tau} {p1 p2 : DD} (h : Tn n t) (hn : n < 2 ^ 36) (ha : 1 ≤ a) (ha2 : a ≤ 6) :
    ∃ (qs : List Nt) (t' : Tau), d__law_ads [.tape, .fr (.tup [.int (a : Int), p1, p2]), .fr (.int 8)] (some t) = .ok (.lst (qs.map ntD)) (some t') ∧ qs.length ≤ 8 ∧ (∀ q ∈ qs, NtG a q ∧ Nm1 q.n) ∧ Tn (n + 2000) t' := by
  obtain ⟨xs, t1, e1, lx, nx, _, T1⟩ := names_nd (m := 8) h (by omega) (by decide)
  obtain ⟨r2, t2, e2, a2, b2, T2⟩ := draw_ok T1 (by omega) (m := 9) (by decide) (by decide)
  obtain ⟨r, rfl⟩ := Int.eq_ofNat_of_zero_le a2
  have r8 : r ≤ 8 := by omega
  obtain ⟨ρ2, τ2, e3, qs, q5, t3, lq, gq, T3, rfl, rfl⟩ := forL_inv (t := .nm 5) (δ := b__law_ads_L1) (ds := rangeD 0 r) (ρ := [some .tape, some (.fr (.tup [.int (a : Int), p1, p2])), some (.fr (.int 8)), some (.fr (.lst (sL xs))), some (.ow (.lst [])), none]) (τ := some t2)
    (fun i ρ τ => ∃ (qs : List Nt) (q5 : Option PV) (t3 : Tau), qs.length = i ∧ (∀ q ∈ qs, NtG a q ∧ Nm1 q.n) ∧ Tn (n + 6 + 220 * i) t3 ∧ ρ = [some .tape, some (.fr (.tup [.int (a : Int), p1, p2])), some (.fr (.int 8)), some (.fr (.lst (sL xs))), some (.ow (.lst (qs.map ntD))), q5] ∧ τ = some t3)
    ⟨[], none, t2, rfl, fun _ h => (nomatch h), T2.mono (by omega), rfl, rfl⟩ (by
      rintro i d ρ τ hd ⟨qs, q5, t3, lq, gq, T3, rfl, rfl⟩
      obtain ⟨hi, rfl⟩ := rangeD_get0 hd
      obtain ⟨q, t4, e, g, nm, T4⟩ := ads_turn (i := i) (p1 := p1) (p2 := p2) T3 (by omega) ha ha2 lx nx (by omega) (by omega) (o2 := some (.fr (.int 8))) (qs := qs)
      refine ⟨_, tgF_nm, _, _, .inl e, qs ++ [q], _, t4, by simp [lq], fun z hz => ?_, T4.mono (by omega), rfl, rfl⟩
      rcases List.mem_append.mp hz with hz | hz
      · exact gq z hz
      · rw [List.mem_singleton.mp hz]; exact ⟨g, nm⟩)
  rw [rangeD_len] at *
  refine ⟨qs, t3, ?_, by omega, gq, T3.mono (by omega)⟩
  rw [show ((8 : Nat) : Int) = 8 from rfl] at e1
  generalize sL xs = XX at *
  generalize qs.map ntD = QQ at *
  simp (disch := first | omega | (simp <;> omega) | fail) [if_pos, d__law_ads, b__law_ads, b__law_ads_1, b__law_ads_2, ev_body, startP, List.replicate, e1, e2, e3]
theorem plainDs_mem {ds : List DD} (h : ∀ d ∈ ds, plainD d = true) : plainDs ds = true := by
  induction ds with
  | nil => rfl
  | cons d ds ih => rw [plainDs, h d List.mem_cons_self, ih fun x hx => h x (List.mem_cons_of_mem _ hx)]; rfl
theorem ne_self {d : DD} {n k : Nat} (h : Rb n k d) (hk : k ≤ 64) (pl : plainD d = true) : gNeD d d = some (.bl false) := by
  haveI : Decidable (d = d) := .isTrue rfl
  rw [gNeD_eq h h hk hk pl pl]
  simp
theorem sp_rb {p : Sp4} (h : Nm1 p.n) (b : p.at' ≤ 1000 ∧ p.y ≤ 1000 ∧ p.h ≤ 4000) : Rb 100 1 (spD p) := by
  have h1 : Rb 8 0 (.str (S p.n)) := Rb.str (Tx.S (n := 8) h.len h.cp)
  have i : ∀ x : Nat, x ≤ 4000 → Rb 0 0 (.int (x : Int)) := fun x hx => Rb.int (by omega)
  exact (Rb.tup (RbA.cons h1 (RbA.cons (i _ (by omega)) (RbA.cons (i _ (by omega)) (RbA.cons (i _ (by omega)) RbA.nil))))).mono (by decide) (by decide)
theorem sps_rb {l : List Sp4} (h : ∀ p ∈ l, Nm1 p.n ∧ p.at' ≤ 1000 ∧ p.y ≤ 1000 ∧ p.h ≤ 4000) : Rb (101 * (l.map spD).length) 2 (.lst (l.map spD)) := by
  refine Rb.lst (RbA.all (n := 100) (k := 1) fun d hd => ?_)
  obtain ⟨p, hp, rfl⟩ := List.mem_map.mp hd
  exact sp_rb (h p hp).1 (h p hp).2
theorem sps_pl {l : List Sp4} : plainD (.lst (l.map spD)) = true := plainDs_mem fun d hd => by
  obtain ⟨p, _, rfl⟩ := List.mem_map.mp hd
  rfl
theorem nms_rb {l : List (List Nat)} (h : ∀ x ∈ l, Nm1 x) : Rb (9 * (sL l).length) 1 (.lst (sL l)) := by
  refine Rb.lst (RbA.all (n := 8) (k := 0) fun d hd => ?_)
  unfold sL at hd
  obtain ⟨x, hx, rfl⟩ := List.mem_map.mp hd
  exact Rb.str (Tx.S (n := 8) (h x hx).len (h x hx).cp)
structure Ok (a b c : Nat) (qs : List Nt) : Prop where
  g : ∀ q ∈ qs, NtG a q ∧ Nm1 q.n
  a1 : 1 ≤ a
  a6 : a ≤ 6
  b1 : 16 ≤ b
  b2 : b ≤ 40
  c2 : c ≤ 60
  l : qs.length ≤ 8
/-- the heights are small -/
structure SpB (p : Sp4) : Prop where
  n : Nm1 p.n
  b : p.at' ≤ 1000 ∧ p.y ≤ 1000 ∧ p.h ≤ 4000
theorem spb_all {a b c kp : Nat} (ha : a ≤ 6) (h3 : 16 ≤ b) (h4 : b ≤ 40) (hc : c ≤ 60) : ∀ (qs : List Nt) (F : Fo), (∀ q ∈ qs, NtG a q ∧ Nm1 q.n) → (∀ p ∈ F.sp, SpB p) → (∀ x ∈ F.un, Nm1 x) → (∀ p ∈ (qs.foldl (put1 a b c kp) F).sp, SpB p) ∧ ∀ x ∈ (qs.foldl (put1 a b c kp) F).un, Nm1 x
  | [], F, _, h1, h2 => ⟨h1, h2⟩
  | q :: qs, F, hq, h1, h2 => by
    rw [List.foldl_cons]
    obtain ⟨g, nm⟩ := hq q List.mem_cons_self
    have s0 := g.s0
    have s1 := g.s1
    refine spb_all ha h3 h4 hc qs _ (fun z hz => hq z (List.mem_cons_of_mem _ hz)) (fun p hp => ?_) fun x hx => ?_
    · unfold put1 at hp
      split at hp
      · exact h1 p hp
      · rcases List.mem_append.mp hp with hp | hp
        · exact h1 p hp
        · rw [List.mem_singleton.mp hp]
          have lt := low_lt a F.ts q.s
          have := (hgt_len g ha h3 h4).2
          exact ⟨nm, by show low a F.ts q.s ≤ 1000; omega, by show c - _ - _ ≤ 1000; omega, by show hgt b q ≤ 4000; omega⟩
    · unfold put1 at hx
      split at hx
      · rcases List.mem_append.mp hx with hx | hx
        · exact h2 x hx
        · rw [List.mem_singleton.mp hx]; exact nm
      · exact h2 x hx
theorem Ok.spb {a b c : Nat} {qs : List Nt} (h : Ok a b c qs) (kp : Nat) : (∀ p ∈ (stL a b c kp qs).sp, SpB p) ∧ ∀ x ∈ (stL a b c kp qs).un, Nm1 x := spb_all h.a6 h.b1 h.b2 h.c2 qs _ h.g (fun p h => by simp [fo0] at h) (fun p h => by simp [fo0] at h)
def dueD (a b c kp : Nat) (qs : List Nt) : DD := .tup [.lst ((stL a b c kp qs).sp.map spD), .lst (sL (stL a b c kp qs).un)]
theorem due_rb {a b c kp : Nat} {qs : List Nt} (h : Ok a b c qs) : Rb 4000 3 (dueD a b c kp qs) ∧ plainD (dueD a b c kp qs) = true := by
  obtain ⟨h1, h2⟩ := h.spb kp
  have l8 := h.l
  have g := stL_g (b := b) (kp := kp) qs _ _ (fo0_g a c)
  have gs := g.sl
  have gu := g.ul
  change (stL a b c kp qs).sp.length ≤ _ at gs
  change (stL a b c kp qs).un.length ≤ _ at gu
  have r1 := sps_rb (l := (stL a b c kp qs).sp) fun p hp => ⟨(h1 p hp).n, (h1 p hp).b⟩
  have r2 := (nms_rb (l := (stL a b c kp qs).un) h2).mono (Nat.le_refl _) (show 1 ≤ 2 by decide)
  refine ⟨(Rb.tup (RbA.cons (k := 2) r1 (RbA.cons r2 (RbA.all (n := 0) (k := 2) (ds := []) (fun d h => (nomatch h)))))).mono ?_ (by decide), plainDs_mem fun d hd => ?_⟩
  · rw [List.length_map, sL_len]
    simp
    omega
  · rcases List.mem_cons.mp hd with rfl | hd
    · exact sps_pl
    · rw [List.mem_singleton.mp hd]; exact plain_sL _
theorem vw_due {st : List Nd} {a b c kp : Nat} {qs : List Nt} : vw st (dueD a b c kp qs) = dueD a b c kp qs := rfl
theorem nts_rb {qs : List Nt} {a : Nat} (h : ∀ q ∈ qs, NtG a q ∧ Nm1 q.n) (ha : a ≤ 6) : Rb ((1953) * (qs.map ntD).length) 2 (.lst (qs.map ntD)) := by
  refine Rb.lst (RbA.all (n := 1952) (k := 1) fun d hd => ?_)
  obtain ⟨q, hq, rfl⟩ := List.mem_map.mp hd
  obtain ⟨g, nm⟩ := h q hq
  have h1 : Rb 8 0 (.str (S q.n)) := Rb.str (Tx.S (n := 8) nm.len nm.cp)
  have h2 : Rb 0 0 (.int (q.s : Int)) := Rb.int (by have := g.s1; omega)
  have h3 : Rb 1930 0 (.str (S q.x)) := Rb.str (Tx.S (n := 1930) g.xl g.xc)
  exact (Rb.tup (RbA.cons h1 (RbA.cons h2 (RbA.cons h3 RbA.nil)))).mono (by decide) (by decide)
theorem nts_pl {qs : List Nt} : plainD (.lst (qs.map ntD)) = true := plainDs_mem fun d hd => by
  obtain ⟨q, _, rfl⟩ := List.mem_map.mp hd
  rfl
theorem inner {a b c kp n : Nat} {qs : List Nt} {t : Tau} (h : Ok a b c qs) (hk : kp ≤ 6) (T : Tn n t) {o0 o1 o3 o5 o7 o8 o9 o10 : Option PV} :
    ∃ q7 q8 q9 q10 t', b_law_L2 [o0, o1, some (.fr (.tup [.int (a : Int), .int (b : Int), .int (c : Int)])), o3, some (.fr (.lst (qs.map ntD))), o5, some (.fr (.int (kp : Int))), o7, o8, o9, o10] (some t) = .ok (.nx [o0, o1, some (.fr (.tup [.int (a : Int), .int (b : Int), .int (c : Int)])), o3, some (.fr (.lst (qs.map ntD))), o5, some (.fr (.int (kp : Int))), q7, q8, q9, q10]) (some t') ∧ Tn n t' := by
  have c2 := h.c2
  have l8 := h.l
  have hg : ∀ q ∈ qs, NtG a q := fun q hq => (h.g q hq).1
  obtain ⟨rb, pl⟩ := due_rb (kp := kp) h
  obtain ⟨s, hs⟩ := gRepr_ok rb (l := [.lst ((stL a b c kp qs).sp.map spD), .lst (sL (stL a b c kp qs).un)]) rfl (by decide) (by decide)
  have ns := ne_self rb (by decide) pl
  have nq := ne_self (nts_rb h.g h.a6) (by decide) nts_pl
  obtain ⟨x, y, e0⟩ := stood_law (kp := kp) hg h.a6 h.b1 h.b2 (c := c) (by omega) (by omega) (by omega) (τ := some t)
  have cu : cutL [DD.lst ((stL a b c kp qs).sp.map spD), .lst (sL (stL a b c kp qs).un), x, y] none (some 2) = [.lst ((stL a b c kp qs).sp.map spD), .lst (sL (stL a b c kp qs).un)] := by rw [cutL_to (by decide)]; rfl
  have sa := fun t => ads_ok (t := t) (kp := kp) hg h.a6 h.b1 h.b2 (c := c) (by omega) (by omega) (by omega)
  have s5 := fun t => sa_5 (t := t) (f := .tup [.int (a : Int), .int (b : Int), .int (c : Int)]) (kp := kp) (F := stL a b c kp qs)
  have s6 := fun t => sa_6 (t := t) (f := .tup [.int (a : Int), .int (b : Int), .int (c : Int)]) (kp := kp) (F := stL a b c kp qs)
  have so := fun (t : Tau) (k : Nat) (nd : Nd) (hh : t.st[k]? = some nd) => sa_old (t := t) (f := .tup [.int (a : Int), .int (b : Int), .int (c : Int)]) (kp := kp) (F := stL a b c kp qs) hh
  have sT := fun (t : Tau) (T : Tn n t) => (show Tn n (SA t (.tup [.int (a : Int), .int (b : Int), .int (c : Int)]) kp (stL a b c kp qs)) from Tn.stX T)
  have g := stL_g (b := b) (kp := kp) qs _ _ (fo0_g a c)
  have gs := g.sl
  have gu := g.ul
  change (stL a b c kp qs).sp.length ≤ _ at gs
  change (stL a b c kp qs).un.length ≤ _ at gu
  have ls : ((stL a b c kp qs).sp.map spD).length ≤ 8 := by rw [List.length_map]; omega
  have lu : (sL (stL a b c kp qs).un).length ≤ 8 := by rw [sL_len]; omega
  -- the ones that are otherwise
  have lc : ∀ (ps : List (Nat × Nat)) (Z : Tau) (o7 o8 o9 o10 : Option PV), (∀ p ∈ ps, Z.st[p.1]? = some (.lst ((stL a b c kp qs).sp.map spD)) ∧ Z.st[p.2]? = some (.lst (sL (stL a b c kp qs).un))) → o7 = some (.fr (dueD a b c kp qs)) →
      lcL (.nm 10) (dTest (dOp (gEq true) (dCallV (c1 gRepr) (dCons (dV 10) dNil)) (dCall (c1 gRepr) (dCons (dV 7) dNil)))) (dV 10) [o0, o1, some (.fr (.tup [.int (a : Int), .int (b : Int), .int (c : Int)])), o3, some (.fr (.lst (qs.map ntD))), o5, some (.fr (.int (kp : Int))), o7, o8, o9, o10] (ps.map ptrs) (some Z) = .ok [] (some Z) := fun ps Z o7 o8 o9 o10 hp h7 => by
    subst h7
    have r := lcL_fmapOf (mk := ptrs) (f := ptrs) (p := fun _ => false) (t := .nm 10) (A := dTest (dOp (gEq true) (dCallV (c1 gRepr) (dCons (dV 10) dNil)) (dCall (c1 gRepr) (dCons (dV 7) dNil)))) (a := dV 10) (xs := ps) (τ := some Z) (ρ := [o0, o1, some (.fr (.tup [.int (a : Int), .int (b : Int), .int (c : Int)])), o3, some (.fr (.lst (qs.map ntD))), o5, some (.fr (.int (kp : Int))), some (.fr (dueD a b c kp qs)), o8, o9, o10]) fun p hpm => ⟨_, tgF_nm, by
      obtain ⟨p1, p2⟩ := hp p hpm
      have v := vw_ptrs p1 p2
      have cv : dCallV (c1 gRepr) (dCons (dV 10) dNil) [o0, o1, some (.fr (.tup [.int (a : Int), .int (b : Int), .int (c : Int)])), o3, some (.fr (.lst (qs.map ntD))), o5, some (.fr (.int (kp : Int))), some (.fr (dueD a b c kp qs)), o8, o9, some (.fr (ptrs p))] (some Z) = .ok (.str s) (some Z) := by
        refine callV_ok (xs := [ptrs p]) ?_ ?_ rfl
        · generalize ptrs p = PP at *
          generalize dueD a b c kp qs = DU at *
          generalize qs.map ntD = QQ at *
          simp (disch := first | omega | (simp <;> omega) | fail) [if_pos, ]
        · rw [List.map_cons, List.map_nil, v]
          exact hs
      change dCallV (c1 gRepr) (dCons (dV 10) dNil) [o0, o1, some (.fr (.tup [.int (a : Int), .int (b : Int), .int (c : Int)])), o3, some (.fr (.lst (qs.map ntD))), o5, some (.fr (.int (kp : Int))), some (.fr (dueD a b c kp qs)), o8, o9, some (.fr (ptrs p))] (some Z) = .ok (.str s) (some Z) at cv
      generalize ptrs p = PP at *
      generalize dueD a b c kp qs = DU at *
      generalize qs.map ntD = QQ at *
      simp (disch := first | omega | (simp <;> omega) | fail) [if_pos, cv, hs], fun z => (nomatch z)⟩
    rw [r]
    simp
  have ne0 : gNeD (.lst []) (.lst []) = some (.bl false) := ne_self (n := 0) (k := 1) ⟨.list [], rfl, by decide, by decide, by decide, by decide, by decide⟩ (by decide) rfl
  -- the last one
  have last : ∀ (Z : Tau) (o7 o8 o9 o10 : Option PV), o7 = some (.fr (dueD a b c kp qs)) → o8 = some (.fr (.lst (qs.map ntD))) → b_law_L2_6 [o0, o1, some (.fr (.tup [.int (a : Int), .int (b : Int), .int (c : Int)])), o3, some (.fr (.lst (qs.map ntD))), o5, some (.fr (.int (kp : Int))), o7, o8, o9, o10] (some Z) = .ok (.nx [o0, o1, some (.fr (.tup [.int (a : Int), .int (b : Int), .int (c : Int)])), o3, some (.fr (.lst (qs.map ntD))), o5, some (.fr (.int (kp : Int))), o7, o8, o9, o10]) (some (SA Z (.tup [.int (a : Int), .int (b : Int), .int (c : Int)]) kp (stL a b c kp qs))) := fun Z o7 o8 o9 o10 h7 h8 => by
    subst h7 h8
    have v := vw_ptrs (p := (Z.st.length + 5, Z.st.length + 6)) (s5 Z) (s6 Z)
    have e1 := sa Z
    have ov : dOpV gNeD (dCallN 3 d_stand_ads [] (dpCons (dpE (dV 2)) (dpCons (dpE (dV 8)) (dpCons (dpE (dV 6)) dpNil)))) (dV 7) [o0, o1, some (.fr (.tup [.int (a : Int), .int (b : Int), .int (c : Int)])), o3, some (.fr (.lst (qs.map ntD))), o5, some (.fr (.int (kp : Int))), some (.fr (dueD a b c kp qs)), some (.fr (.lst (qs.map ntD))), o9, o10] (some Z) = .ok (.bl false) (some (SA Z (.tup [.int (a : Int), .int (b : Int), .int (c : Int)]) kp (stL a b c kp qs))) := by
      refine opV_ok (u := ptrs (Z.st.length + 5, Z.st.length + 6)) (v := dueD a b c kp qs) (τ1 := some (SA Z (.tup [.int (a : Int), .int (b : Int), .int (c : Int)]) kp (stL a b c kp qs))) ?_ ?_ ?_ rfl
      · clear v
        generalize ptrs (Z.st.length + 5, Z.st.length + 6) = PP at *
        generalize SA Z (.tup [.int (a : Int), .int (b : Int), .int (c : Int)]) kp (stL a b c kp qs) = Z2 at *
        generalize dueD a b c kp qs = DU at *
        generalize qs.map ntD = QQ at *
        simp (disch := first | omega | (simp <;> omega) | fail) [if_pos, e1]
      · clear v
        generalize SA Z (.tup [.int (a : Int), .int (b : Int), .int (c : Int)]) kp (stL a b c kp qs) = Z2 at *
        generalize dueD a b c kp qs = DU at *
        generalize qs.map ntD = QQ at *
        simp (disch := first | omega | (simp <;> omega) | fail) [if_pos, ]
      · rw [v, vw_due]
        exact ns
    generalize SA Z (.tup [.int (a : Int), .int (b : Int), .int (c : Int)]) kp (stL a b c kp qs) = Z2 at *
    generalize dueD a b c kp qs = DU at *
    generalize qs.map ntD = QQ at *
    simp (disch := first | omega | (simp <;> omega) | fail) [if_pos, b_law_L2_6, ov]
  have e1 := sa t
  have e2 := sa (SA t (.tup [.int (a : Int), .int (b : Int), .int (c : Int)]) kp (stL a b c kp qs))
  have e3 := sa (SA (SA t (.tup [.int (a : Int), .int (b : Int), .int (c : Int)]) kp (stL a b c kp qs)) (.tup [.int (a : Int), .int (b : Int), .int (c : Int)]) kp (stL a b c kp qs))
  have T1 := sT t T
  have T2 := sT _ T1
  have T3 := sT _ T2
  have f1 := s5 t
  have f2 := s6 t
  have f3 := so (SA t (.tup [.int (a : Int), .int (b : Int), .int (c : Int)]) kp (stL a b c kp qs)) _ _ f1
  have f4 := so (SA t (.tup [.int (a : Int), .int (b : Int), .int (c : Int)]) kp (stL a b c kp qs)) _ _ f2
  have f5 := s5 (SA t (.tup [.int (a : Int), .int (b : Int), .int (c : Int)]) kp (stL a b c kp qs))
  have f6 := s6 (SA t (.tup [.int (a : Int), .int (b : Int), .int (c : Int)]) kp (stL a b c kp qs))
  have g3 := so (SA (SA t (.tup [.int (a : Int), .int (b : Int), .int (c : Int)]) kp (stL a b c kp qs)) (.tup [.int (a : Int), .int (b : Int), .int (c : Int)]) kp (stL a b c kp qs)) _ _ f3
  have g4 := so (SA (SA t (.tup [.int (a : Int), .int (b : Int), .int (c : Int)]) kp (stL a b c kp qs)) (.tup [.int (a : Int), .int (b : Int), .int (c : Int)]) kp (stL a b c kp qs)) _ _ f4
  have g5 := so (SA (SA t (.tup [.int (a : Int), .int (b : Int), .int (c : Int)]) kp (stL a b c kp qs)) (.tup [.int (a : Int), .int (b : Int), .int (c : Int)]) kp (stL a b c kp qs)) _ _ f5
  have g6 := so (SA (SA t (.tup [.int (a : Int), .int (b : Int), .int (c : Int)]) kp (stL a b c kp qs)) (.tup [.int (a : Int), .int (b : Int), .int (c : Int)]) kp (stL a b c kp qs)) _ _ f6
  have g7 := s5 (SA (SA t (.tup [.int (a : Int), .int (b : Int), .int (c : Int)]) kp (stL a b c kp qs)) (.tup [.int (a : Int), .int (b : Int), .int (c : Int)]) kp (stL a b c kp qs))
  have g8 := s6 (SA (SA t (.tup [.int (a : Int), .int (b : Int), .int (c : Int)]) kp (stL a b c kp qs)) (.tup [.int (a : Int), .int (b : Int), .int (c : Int)]) kp (stL a b c kp qs))
  have dl : (qs.map ntD).length ≤ 8 := by rw [List.length_map]; exact l8
  generalize hz3 : SA (SA (SA t (.tup [.int (a : Int), .int (b : Int), .int (c : Int)]) kp (stL a b c kp qs)) (.tup [.int (a : Int), .int (b : Int), .int (c : Int)]) kp (stL a b c kp qs)) (.tup [.int (a : Int), .int (b : Int), .int (c : Int)]) kp (stL a b c kp qs) = t3 at *
  generalize hz2 : SA (SA t (.tup [.int (a : Int), .int (b : Int), .int (c : Int)]) kp (stL a b c kp qs)) (.tup [.int (a : Int), .int (b : Int), .int (c : Int)]) kp (stL a b c kp qs) = t2 at *
  generalize hz1 : SA t (.tup [.int (a : Int), .int (b : Int), .int (c : Int)]) kp (stL a b c kp qs) = t1 at *
  have hd : DD.tup [.lst ((stL a b c kp qs).sp.map spD), .lst (sL (stL a b c kp qs).un)] = dueD a b c kp qs := rfl
  by_cases c4 : kp = 4
  · have c4q : (kp : Int) = 4 := by omega
    have c4' : ((kp : Int) = 4) = True := eq_true c4q
    have e3' : d_stand_ads [.fr (.tup [.int (a : Int), .int (b : Int), .int (c : Int)]), .fr (.lst (qs.map ntD)), .fr (.int 4)] (some t2) = .ok (ptrs (t2.st.length + 5, t2.st.length + 6)) (some t3) := by rw [← c4q]; exact e3
    clear c4q
    have hp : ∀ p ∈ [(t.st.length + 5, t.st.length + 6), (t1.st.length + 5, t1.st.length + 6), (t2.st.length + 5, t2.st.length + 6)], t3.st[p.1]? = some (.lst ((stL a b c kp qs).sp.map spD)) ∧ t3.st[p.2]? = some (.lst (sL (stL a b c kp qs).un)) := fun p hp => by
      simp only [List.mem_cons, List.not_mem_nil, or_false] at hp
      rcases hp with rfl | rfl | rfl
      · exact ⟨g3, g4⟩
      · exact ⟨g5, g6⟩
      · exact ⟨g7, g8⟩
    have l1 := fun o8 o9 o10 => lc _ t3 (some (.fr (dueD a b c kp qs))) o8 o9 o10 hp rfl
    obtain ⟨q10, st', cl⟩ := clr_loop (o0 := o0) (o1 := o1) (o2 := some (.fr (.tup [.int (a : Int), .int (b : Int), .int (c : Int)]))) (o3 := o3) (o4 := some (.fr (.lst (qs.map ntD)))) (o5 := o5) (o6 := some (.fr (.int (kp : Int)))) (o7 := some (.fr (dueD a b c kp qs))) (o8 := some (.fr (.lst (qs.map ntD)))) (o9 := some (.fr (.lst ([(t.st.length + 5, t.st.length + 6), (t1.st.length + 5, t1.st.length + 6), (t2.st.length + 5, t2.st.length + 6)].map ptrs)))) _ 8 t3 o10 (fun x hx => ⟨⟨_, (hp x hx).1, ls⟩, ⟨_, (hp x hx).2, lu⟩⟩) (by simp)
    have la := last ({ t3 with st := st' } : Tau) (some (.fr (dueD a b c kp qs))) (some (.fr (.lst (qs.map ntD)))) (some (.fr (.lst ([(t.st.length + 5, t.st.length + 6), (t1.st.length + 5, t1.st.length + 6), (t2.st.length + 5, t2.st.length + 6)].map ptrs)))) q10 rfl rfl
    have T4 : Tn n ({ t3 with st := st' } : Tau) := ⟨T3.a0, T3.a1, T3.l0⟩
    have T5 := sT _ T4
    simp only [List.map_cons, List.map_nil] at l1 cl la
    clear hp lc last f1 f2 f3 f4 f5 f6 g3 g4 g5 g6 g7 g8 s5 s6 so sa sT
    generalize SA ({ t3 with st := st' } : Tau) (.tup [.int (a : Int), .int (b : Int), .int (c : Int)]) kp (stL a b c kp qs) = t5 at *
    generalize ({ t3 with st := st' } : Tau) = t4 at *
    refine ⟨some (.fr (dueD a b c kp qs)), some (.fr (.lst (qs.map ntD))), some (.fr (.lst [ptrs (t.st.length + 5, t.st.length + 6), ptrs (t1.st.length + 5, t1.st.length + 6), ptrs (t2.st.length + 5, t2.st.length + 6)])), q10, t5, ?_, T5⟩
    generalize ptrs (t.st.length + 5, t.st.length + 6) = P0 at *
    generalize ptrs (t1.st.length + 5, t1.st.length + 6) = P1 at *
    generalize ptrs (t2.st.length + 5, t2.st.length + 6) = P2 at *
    clear rb pl hs ns ls lu gs gu g T4 T5
    generalize dueD a b c kp qs = DU at *
    generalize (stL a b c kp qs).sp.map spD = D2 at *
    generalize sL (stL a b c kp qs).un = UU at *
    generalize qs.map ntD = QQ at *
    simp (disch := first | omega | (simp <;> omega) | fail) [if_pos, b_law_L2, b_law_L2_1, b_law_L2_2, b_law_L2_3, b_law_L2_4, b_law_L2_5, e0, cu, hd, e1, e2, e3', c4', l1, ne0, nq, cl, la, pickL, pick1, List.filterMap]
  · have c4' : ¬ (kp : Int) = 4 := by omega
    clear e3
    have hp : ∀ p ∈ [(t.st.length + 5, t.st.length + 6), (t1.st.length + 5, t1.st.length + 6)], t2.st[p.1]? = some (.lst ((stL a b c kp qs).sp.map spD)) ∧ t2.st[p.2]? = some (.lst (sL (stL a b c kp qs).un)) := fun p hp => by
      simp only [List.mem_cons, List.not_mem_nil, or_false] at hp
      rcases hp with rfl | rfl
      · exact ⟨f3, f4⟩
      · exact ⟨f5, f6⟩
    have l1 := fun o8 o9 o10 => lc _ t2 (some (.fr (dueD a b c kp qs))) o8 o9 o10 hp rfl
    obtain ⟨q10, st', cl⟩ := clr_loop (o0 := o0) (o1 := o1) (o2 := some (.fr (.tup [.int (a : Int), .int (b : Int), .int (c : Int)]))) (o3 := o3) (o4 := some (.fr (.lst (qs.map ntD)))) (o5 := o5) (o6 := some (.fr (.int (kp : Int)))) (o7 := some (.fr (dueD a b c kp qs))) (o8 := some (.fr (.lst (qs.map ntD)))) (o9 := some (.fr (.lst ([(t.st.length + 5, t.st.length + 6), (t1.st.length + 5, t1.st.length + 6)].map ptrs)))) _ 8 t2 o10 (fun x hx => ⟨⟨_, (hp x hx).1, ls⟩, ⟨_, (hp x hx).2, lu⟩⟩) (by simp)
    have la := last ({ t2 with st := st' } : Tau) (some (.fr (dueD a b c kp qs))) (some (.fr (.lst (qs.map ntD)))) (some (.fr (.lst ([(t.st.length + 5, t.st.length + 6), (t1.st.length + 5, t1.st.length + 6)].map ptrs)))) q10 rfl rfl
    have T4 : Tn n ({ t2 with st := st' } : Tau) := ⟨T2.a0, T2.a1, T2.l0⟩
    have T5 := sT _ T4
    simp only [List.map_cons, List.map_nil] at l1 cl la
    clear hp lc last f1 f2 f3 f4 f5 f6 g3 g4 g5 g6 g7 g8 s5 s6 so sa sT
    generalize SA ({ t2 with st := st' } : Tau) (.tup [.int (a : Int), .int (b : Int), .int (c : Int)]) kp (stL a b c kp qs) = t5 at *
    generalize ({ t2 with st := st' } : Tau) = t4 at *
    refine ⟨some (.fr (dueD a b c kp qs)), some (.fr (.lst (qs.map ntD))), some (.fr (.lst [ptrs (t.st.length + 5, t.st.length + 6), ptrs (t1.st.length + 5, t1.st.length + 6)])), q10, t5, ?_, T5⟩
    generalize ptrs (t.st.length + 5, t.st.length + 6) = P0 at *
    generalize ptrs (t1.st.length + 5, t1.st.length + 6) = P1 at *
    clear rb pl hs ns ls lu gs gu g T4 T5
    generalize dueD a b c kp qs = DU at *
    generalize (stL a b c kp qs).sp.map spD = D2 at *
    generalize sL (stL a b c kp qs).un = UU at *
    generalize qs.map ntD = QQ at *
    simp (disch := first | omega | (simp <;> omega) | fail) [if_pos, b_law_L2, b_law_L2_1, b_law_L2_2, b_law_L2_3, b_law_L2_4, b_law_L2_5, e0, cu, hd, e1, e2, c4', l1, ne0, nq, cl, la, pickL, pick1, List.filterMap]
theorem law_true (ns : List Int) (hn : ns.length ≤ 63) : ∃ τ, bodyF 11 b_law [.scr ns] none = .ok (.bl true) τ := by
  obtain ⟨a, b, c, t1, e1, a1, a6, b1, b2, c1, c2, T1⟩ := form_ok (Tn.zero (ns := cells0 ns)) (by decide)
  replace e1 : d__law_form [.tape] (some { cells := cells0 ns, at' := 0, left := 0 }) = _ := e1
  obtain ⟨qs, t2, e2, lq, gq, T2⟩ := ads_law (p1 := .int (b : Int)) (p2 := .int (c : Int)) T1 (by decide) a1 a6
  have T2' : Tn 3000 t2 := T2.mono (by decide)
  have dl : (qs.map ntD).length ≤ 8 := by rw [List.length_map]; exact lq
  have rv : (qs.map ntD).reverse = qs.reverse.map ntD := List.map_reverse.symm
  have ca : cutL (qs.map ntD) none (some 3) ++ cutL (qs.map ntD) none (some 2) = (qs.take 3 ++ qs.take 2).map ntD := by
    rw [cutL_to (by decide), cutL_to (by decide), List.map_append, List.map_take, List.map_take]; rfl
  have cl3 : (cutL (qs.map ntD) none (some 3)).length ≤ 3 := by rw [cutL_to (by decide), List.length_take]; omega
  have cl2 : (cutL (qs.map ntD) none (some 2)).length ≤ 2 := by rw [cutL_to (by decide), List.length_take]; omega
  have ok : ∀ ps : List Nt, (∀ q ∈ ps, q ∈ qs) → ps.length ≤ 8 → Ok a b c ps := fun ps h hl => ⟨fun q hq => gq q (h q hq), a1, a6, b1, b2, c2, hl⟩
  have all3 : ∀ d ∈ [DD.lst (qs.map ntD), .lst (qs.reverse.map ntD), .lst ((qs.take 3 ++ qs.take 2).map ntD)], ∃ ps, d = .lst (ps.map ntD) ∧ Ok a b c ps := fun d hd => by
    simp only [List.mem_cons, List.not_mem_nil, or_false] at hd
    rcases hd with rfl | rfl | rfl
    · exact ⟨_, rfl, ok _ (fun _ h => h) lq⟩
    · exact ⟨_, rfl, ok _ (fun _ h => List.mem_reverse.mp h) (by simpa using lq)⟩
    · refine ⟨_, rfl, ok _ (fun q h => ?_) (by simp; omega)⟩
      rcases List.mem_append.mp h with h | h
      · exact List.take_subset _ _ h
      · exact List.take_subset _ _ h
  obtain ⟨ρ3, τ3, lp, q4, q5, q6, q7, q8, q9, q10, t3, rfl, rfl, T3⟩ := forL_inv (t := .nm 4) (δ := b_law_L1) (ds := [DD.lst (qs.map ntD), .lst (qs.reverse.map ntD), .lst ((qs.take 3 ++ qs.take 2).map ntD)]) (ρ := [some (.scr ns), some .tape, some (.fr (.tup [.int (a : Int), .int (b : Int), .int (c : Int)])), some (.fr (.lst (qs.map ntD))), none, none, none, none, none, none, none]) (τ := some t2)
    (fun i ρ τ => ∃ (q4 q5 q6 q7 q8 q9 q10 : Option PV) (t3 : Tau), ρ = [some (.scr ns), some .tape, some (.fr (.tup [.int (a : Int), .int (b : Int), .int (c : Int)])), some (.fr (.lst (qs.map ntD))), q4, q5, q6, q7, q8, q9, q10] ∧ τ = some t3 ∧ Tn (3000 + 10 * i) t3)
    ⟨none, none, none, none, none, none, none, t2, rfl, rfl, T2'⟩ (by
      rintro i d ρ τ hd ⟨q4, q5, q6, q7, q8, q9, q10, t3, rfl, rfl, T3⟩
      have hi := (List.getElem?_eq_some_iff.mp hd).1
      have hi : i < 3 := hi
      obtain ⟨ps, rfl, hO⟩ := all3 d (List.mem_of_getElem? hd)
      obtain ⟨r4, t4, e4, a4, b4, T4⟩ := draw_ok T3 (by omega) (m := 7) (by decide) (by decide)
      obtain ⟨kp, rfl⟩ := Int.eq_ofNat_of_zero_le a4
      have k6 : kp ≤ 6 := by omega
      obtain ⟨ρ5, τ5, lp5, z6, z7, z8, z9, z10, t5, rfl, rfl, T5⟩ := forL_inv (t := .nm 6) (δ := b_law_L2) (ds := [DD.int (kp : Int), .int (kp : Int), .int 4]) (ρ := [some (.scr ns), some .tape, some (.fr (.tup [.int (a : Int), .int (b : Int), .int (c : Int)])), some (.fr (.lst (qs.map ntD))), some (.fr (.lst (ps.map ntD))), some (.fr (.int (kp : Int))), q6, q7, q8, q9, q10]) (τ := some t4)
        (fun _ ρ τ => ∃ (z6 z7 z8 z9 z10 : Option PV) (t5 : Tau), ρ = [some (.scr ns), some .tape, some (.fr (.tup [.int (a : Int), .int (b : Int), .int (c : Int)])), some (.fr (.lst (qs.map ntD))), some (.fr (.lst (ps.map ntD))), some (.fr (.int (kp : Int))), z6, z7, z8, z9, z10] ∧ τ = some t5 ∧ Tn (3000 + 10 * i + 1) t5)
        ⟨q6, q7, q8, q9, q10, t4, rfl, rfl, T4⟩ (by
          rintro j d ρ τ hd ⟨z6, z7, z8, z9, z10, t5, rfl, rfl, T5⟩
          obtain ⟨k, hk, rfl⟩ : ∃ k : Nat, k ≤ 6 ∧ d = .int (k : Int) := by
            have hm := List.mem_of_getElem? hd
            simp only [List.mem_cons, List.not_mem_nil, or_false] at hm
            rcases hm with rfl | rfl | rfl
            · exact ⟨kp, k6, rfl⟩
            · exact ⟨kp, k6, rfl⟩
            · exact ⟨4, by decide, rfl⟩
          obtain ⟨y7, y8, y9, y10, t6, e, T6⟩ := inner hO hk T5 (o0 := some (.scr ns)) (o1 := some .tape) (o3 := some (.fr (.lst (qs.map ntD)))) (o5 := some (.fr (.int (kp : Int)))) (o7 := z7) (o8 := z8) (o9 := z9) (o10 := z10)
          exact ⟨_, tgF_nm, _, _, .inl e, _, y7, y8, y9, y10, t6, rfl, rfl, T6⟩)
      refine ⟨_, tgF_nm, [some (.scr ns), some .tape, some (.fr (.tup [.int (a : Int), .int (b : Int), .int (c : Int)])), some (.fr (.lst (qs.map ntD))), some (.fr (.lst (ps.map ntD))), some (.fr (.int (kp : Int))), z6, z7, z8, z9, z10], some t5, .inl ?_, _, _, _, _, _, _, _, t5, rfl, rfl, T5.mono (by omega)⟩
      generalize qs.map ntD = Q1 at *
      generalize ps.map ntD = Q2 at *
      simp (disch := first | omega | (simp <;> omega) | fail) [if_pos, b_law_L1, b_law_L1_1, e4, lp5])
  have e9 := ads_ok (t := t3) (kp := 4) (qs := []) (b := b) (c := c) (fun _ h => (nomatch h)) a6 b1 b2 (by omega) (by decide) (by decide)
  have v := vw_ptrs (p := (t3.st.length + 5, t3.st.length + 6)) (sa_5 (t := t3) (f := .tup [.int (a : Int), .int (b : Int), .int (c : Int)]) (kp := 4) (F := stL a b c 4 [])) sa_6
  have eq0 : gEqD (.tup [.lst [], .lst []]) (.tup [.lst [], .lst []]) = some (.bl true) := by
    have hr : Rb 0 1 (.lst []) := ⟨.list [], rfl, by decide, by decide, by decide, by decide, by decide⟩
    have rb : Rb 100 2 (.tup [.lst [], .lst []]) := (Rb.tup (RbA.cons hr (RbA.cons hr (RbA.all (n := 0) (k := 1) (ds := []) (fun d h => (nomatch h)))))).mono (by decide) (by decide)
    haveI : Decidable ((DD.tup [.lst [], .lst []]) = DD.tup [.lst [], .lst []]) := .isTrue rfl
    rw [gEqD_eq rb rb (by decide) (by decide) rfl rfl]
    simp
  have ov : dOpV gEqD (dCallN 3 d_stand_ads [.fr (.int 4)] (dpCons (dpE (dV 2)) (dpCons (dpE (dLst dNil)) dpNil))) (dTup (dCons (dLst dNil) (dCons (dLst dNil) dNil))) [some (.scr ns), some .tape, some (.fr (.tup [.int (a : Int), .int (b : Int), .int (c : Int)])), some (.fr (.lst (qs.map ntD))), q4, q5, q6, q7, q8, q9, q10] (some t3) = .ok (.bl true) (some (SA t3 (.tup [.int (a : Int), .int (b : Int), .int (c : Int)]) 4 (stL a b c 4 []))) := by
    refine opV_ok (u := ptrs (t3.st.length + 5, t3.st.length + 6)) (v := .tup [.lst [], .lst []]) (τ1 := some (SA t3 (.tup [.int (a : Int), .int (b : Int), .int (c : Int)]) 4 (stL a b c 4 []))) ?_ ?_ ?_ rfl
    · clear v
      replace e9 : d_stand_ads [.fr (.tup [.int (a : Int), .int (b : Int), .int (c : Int)]), .fr (.lst []), .fr (.int 4)] (some t3) = _ := e9
      generalize ptrs (t3.st.length + 5, t3.st.length + 6) = PP at *
      generalize SA t3 (.tup [.int (a : Int), .int (b : Int), .int (c : Int)]) 4 (stL a b c 4 []) = Z2 at *
      generalize qs.map ntD = QQ at *
      simp (disch := first | omega | (simp <;> omega) | fail) [if_pos, e9]
    · clear v
      generalize SA t3 (.tup [.int (a : Int), .int (b : Int), .int (c : Int)]) 4 (stL a b c 4 []) = Z2 at *
      generalize qs.map ntD = QQ at *
      simp (disch := first | omega | (simp <;> omega) | fail) [if_pos, ]
    · rw [v]
      exact eq0
  refine ⟨none, ?_⟩
  rw [ev_body]
  show eBody (b_law [some (.scr ns), none, none, none, none, none, none, none, none, none, none] none) none = _
  clear v e9
  generalize SA t3 (.tup [.int (a : Int), .int (b : Int), .int (c : Int)]) 4 (stL a b c 4 []) = Z2 at *
  rw [← rv, ← ca] at lp
  generalize qs.map ntD = QQ at *
  simp (disch := first | omega | (simp <;> omega) | fail) [if_pos, b_law, b_law_1, b_law_2, b_law_3, b_law_4, e1, e2, cl3, cl2, lp, ov]
end Nk22
set_option Elab.async false
set_option linter.all false
set_option maxRecDepth 100000
set_option maxHeartbeats 4000000
namespace Nk22
open PySem L2 Np
abbrev sp_BlockD_initD (K : PySem.W.Frag) (c : Ad) : Sp := spI (⟨K, c.cm, tkL, [(c.P_Stand_lowest, ((("Stand.lowest" : Str) ++ ".<locals>.") ++ "<lambda>"))], none⟩ : Wp) 3 "Block" d_BlockD_initD
theorem ok_BlockD_initD {P : Program} {w : World} {K : PySem.W.Frag} {mg : Str → Option Value} {base : Heap} {c : Ad} {f : Addr} {fd : FuncData} (T : Txt K mg c) (F : Fun K "__init__" "Block.__init__" s_BlockD_initD f fd)
    (R_Unlike : RaiseC P w K mg base c.Unlike "Unlike" ps_UnlikeD_initD ["one", "other"]) : FnG P w K mg base (L2.CX P w) 4 f fd ps_BlockD_initD (sp_BlockD_initD K c) := by
  obtain ⟨fI_Unlike, fdI_Unlike, ini_Unlike, tin_Unlike, I_Unlike, BI_Unlike⟩ := R_Unlike
  refine Fun.okGX F sc_BlockD_initD (fun vs H Q E h => ?_) (fun cdv A outer s H vs Q E hgd hr h => ?_)
  · exact h.1
  · refine ⟨_, (pss_cons (ps_for (passes_of rfl) rfl (pi_listK K (pv 1)) (pg_name (i := 3) sc_BlockD_initD.nd rfl (Or.inl rfl))
      (pss_one (ps_if (pt_cmpR op_gt (pe_callB call_len_str (by rfl) T.b_len (by decide +kernel) (pa_cons (pv 3) pa_nil)) (pv 2) (nomark _))
      (pss_one (ps_raise rfl (takes_of rfl rfl rfl rfl) (pmk_oex T.oex_Unlike ini_Unlike tin_Unlike (I_Unlike) (hr.mono (by decide)) BI_Unlike .nil pass0 rfl T.g_Unlike (pa_cons (pe_callB call_len_str (by rfl) T.b_len (by decide +kernel) (pa_cons (pv 3) pa_nil)) (pa_cons (pv 2) pa_nil)))))
      pss_nil)))
      (pss_cons (ps_fldK K (pv 0) (pe_lc (own := [("row", 3)]) (g := gName 3) (tt := tYes) (by rfl) sc_BlockD_initD.nd (pi_listK K (pv 1)) (blkOk_by (own := [("row", 3)]) (N := nm_BlockD_initD) (sc := defScope s_BlockD_initD) (by decide +kernel)) (fun _ _ _ _ _ => (pg_name (i := 3) sc_BlockD_initD.nd rfl (Or.inl rfl))) (fun _ _ _ _ _ => pts_nil) (fun _ _ _ _ _ => (pe_bmK K PySem.F.plainAttrs_str PySem.F.slot_str_ljust PySem.F.type_str_ljust mt_ljust (pv 3) (pa_cons (pv 2) pa_nil)))) (by rfl))
      (pss_one (ps_fldK K (pv 0) (pv 2) (by rfl))))), ?_⟩
    exact body_okI (W := (⟨K, c.cm, tkL, [(c.P_Stand_lowest, ((("Stand.lowest" : Str) ++ ".<locals>.") ++ "<lambda>"))], none⟩ : Wp)) (cls := "Block") (N := nm_BlockD_initD) (k := 3) (pre := b_BlockD_initD_pre) (δ := b_BlockD_initD_tail) ((ds_for (g := (.nm 3)) (di_list (dn_v (i := 1)))
      (ds_if (dt_test (dn_op od_gt (dn_cb cd_lenS (da_cons (dn_v (i := 3)) da_nil)) (dn_v (i := 2))))
      (ds_raise (cls := "Unlike") (names := ["one", "other"]) T.cm_Unlike (da_cons (dn_cb cd_lenS (da_cons (dn_v (i := 3)) da_nil)) (da_cons (dn_v (i := 2)) da_nil)))
      ds_next)))
      (di_set (cls := "Block") (f := "kept") (by dsimp only; rw [T.cm_Block]; exact T.cls_Block) (by dsimp only; rw [T.cm_Block]; exact T.no_Block_kept) (dn_lc (t := (.nm 3)) (vs := [3]) rfl (di_list (dn_v (i := 1))) dt_yes (dn_bmS md_ljust (dn_v (i := 3)) (da_cons (dn_v (i := 2)) da_nil)))
      (di_last (cls := "Block") (f := "wide") (by dsimp only; rw [T.cm_Block]; exact T.cls_Block) (by dsimp only; rw [T.cm_Block]; exact T.no_Block_wide) (dn_v (i := 2)))) h
abbrev sp_BlockD_lenD (K : PySem.W.Frag) (c : Ad) : Sp := spP (⟨K, c.cm, tkL, [(c.P_Stand_lowest, ((("Stand.lowest" : Str) ++ ".<locals>.") ++ "<lambda>"))], none⟩ : Wp) 1 d_BlockD_lenD
theorem ok_BlockD_lenD {P : Program} {w : World} {K : PySem.W.Frag} {mg : Str → Option Value} {base : Heap} {c : Ad} {f : Addr} {fd : FuncData} (T : Txt K mg c) (F : Fun K "__len__" "Block.__len__" s_BlockD_lenD f fd)
     : FnG P w K mg base CX0 1 f fd ps_BlockD_lenD (sp_BlockD_lenD K c) := by
  refine Fun.okG F sc_BlockD_lenD (fun vs H Q E h => ?_) (fun cdv A outer s H vs Q E hgd hr h => ?_)
  · exact h.1
  · refine ⟨_, (pss_one (ps_ret (pe_callB (call_lenK K) (by rfl) T.b_len (by decide +kernel) (pa_cons (pe_fldK K (pv 0)) pa_nil)))), ?_⟩
    exact body_ok (W := (⟨K, c.cm, tkL, [(c.P_Stand_lowest, ((("Stand.lowest" : Str) ++ ".<locals>.") ++ "<lambda>"))], none⟩ : Wp)) (N := nm_BlockD_lenD) (k := 1) (δ := b_BlockD_lenD)
      ((ds_ret (dn_cb cd_lenL (da_cons (dn_fld (cls := "Block") (by dsimp only; rw [T.cm_Block]; exact T.cls_Block) (by dsimp only; rw [T.cm_Block]; exact T.no_Block_kept) (dn_v (i := 0))) da_nil)))) h
abbrev sp_Block_lines (K : PySem.W.Frag) (c : Ad) : Sp := spO (⟨K, c.cm, tkL, [(c.P_Stand_lowest, ((("Stand.lowest" : Str) ++ ".<locals>.") ++ "<lambda>"))], none⟩ : Wp) 1 d_Block_lines
theorem ok_Block_lines {P : Program} {w : World} {K : PySem.W.Frag} {mg : Str → Option Value} {base : Heap} {c : Ad} {f : Addr} {fd : FuncData} (T : Txt K mg c) (F : Fun K "lines" "Block.lines" s_Block_lines f fd)
     : FnG P w K mg base CX0 1 f fd ps_Block_lines (sp_Block_lines K c) := by
  refine Fun.okG F sc_Block_lines (fun vs H Q E h => ?_) (fun cdv A outer s H vs Q E hgd hr h => ?_)
  · exact h.1
  · refine ⟨_, (pss_one (ps_ret (pe_callTy (call_listK K) (by rfl) T.b_list (by decide +kernel) (pa_cons (pe_fldK K (pv 0)) pa_nil)))), ?_⟩
    exact body_okO (W := (⟨K, c.cm, tkL, [(c.P_Stand_lowest, ((("Stand.lowest" : Str) ++ ".<locals>.") ++ "<lambda>"))], none⟩ : Wp)) (N := nm_Block_lines) (k := 1) (δ := b_Block_lines)
      ((ds_retF (df_list (da_cons (dn_fld (cls := "Block") (by dsimp only; rw [T.cm_Block]; exact T.cls_Block) (by dsimp only; rw [T.cm_Block]; exact T.no_Block_kept) (dn_v (i := 0))) da_nil)))) h
end Nk22
set_option Elab.async false
set_option linter.all false
set_option maxRecDepth 100000
set_option maxHeartbeats 4000000
namespace Nk22
open PySem L2 Np
abbrev sp_parted (K : PySem.W.Frag) (c : Ad) : Sp := spP (⟨K, c.cm, tkL, [(c.P_Stand_lowest, ((("Stand.lowest" : Str) ++ ".<locals>.") ++ "<lambda>"))], none⟩ : Wp) 2 d_parted
theorem ok_parted {P : Program} {w : World} {K : PySem.W.Frag} {mg : Str → Option Value} {base : Heap} {c : Ad} {f : Addr} {fd : FuncData} (T : Txt K mg c) (F : Fun K "parted" "parted" s_parted f fd)
     : FnG P w K mg base CX0 1 f fd ps_parted (sp_parted K c) := by
  refine Fun.okG F sc_parted (fun vs H Q E h => ?_) (fun cdv A outer s H vs Q E hgd hr h => ?_)
  · exact h.1
  · refine ⟨_, (pss_cons (ps_set (i := 2) sc_parted.nd rfl (Or.inl rfl) (pe_lst pa_nil))
      (pss_cons (ps_while PassesOwn.never (pt_cmpR op_gt (pe_callB call_len_str (by rfl) T.b_len (by decide +kernel) (pa_cons (pv 0) pa_nil)) (pv 1) (nomark _))
      (pss_cons (ps_expr (pe_bmK K PySem.F.plainAttrs_list PySem.F.slot_list_append PySem.F.type_list_append mt_append (pv 2) (pa_cons (pe_op op_add_str (pe_slice sl_str (pv 0) po_none (po_some (pe_op op_sub (pv 1) pe_int))) pe_str) pa_nil)))
      (pss_one (ps_set (i := 0) sc_parted.nd rfl (Or.inl rfl) (pe_slice sl_str (pv 0) (po_some (pe_op op_sub (pv 1) pe_int)) po_none)))))
      (pss_one (ps_ret (pe_op op_cat (pv 2) (pe_lst (pa_cons (pv 0) pa_nil))))))), ?_⟩
    exact body_ok (W := (⟨K, c.cm, tkL, [(c.P_Stand_lowest, ((("Stand.lowest" : Str) ++ ".<locals>.") ++ "<lambda>"))], none⟩ : Wp)) (N := nm_parted) (k := 2) (δ := b_parted)
      ((ds_seq (ds_setO (df_lst da_nil))
      (ds_seq (ds_while (n := 1073741824) (dt_test (dn_op od_gt (dn_cb cd_lenS (da_cons (dn_v (i := 0)) da_nil)) (dn_v (i := 1))))
      (ds_seq (ds_app (i := 2) (dn_op od_add_str (dn_slice sd_str (dn_v (i := 0)) do_none (do_some (dn_op od_sub (dn_v (i := 1)) dn_int))) dn_str))
      (ds_set (dn_slice sd_str (dn_v (i := 0)) (do_some (dn_op od_sub (dn_v (i := 1)) dn_int)) do_none))))
      (ds_frz (i := 2) (ds_ret (dn_op od_cat (dn_v (i := 2)) (dn_lst (da_cons (dn_v (i := 0)) da_nil)))))))) h
abbrev sp_words_of (K : PySem.W.Frag) (c : Ad) : Sp := spP (⟨K, c.cm, tkL, [(c.P_Stand_lowest, ((("Stand.lowest" : Str) ++ ".<locals>.") ++ "<lambda>"))], none⟩ : Wp) 1 d_words_of
theorem ok_words_of {P : Program} {w : World} {K : PySem.W.Frag} {mg : Str → Option Value} {base : Heap} {c : Ad} {f : Addr} {fd : FuncData} (T : Txt K mg c) (F : Fun K "words_of" "words_of" s_words_of f fd)
     : FnG P w K mg base CX0 1 f fd ps_words_of (sp_words_of K c) := by
  refine Fun.okG F sc_words_of (fun vs H Q E h => ?_) (fun cdv A outer s H vs Q E hgd hr h => ?_)
  · exact h.1
  · refine ⟨_, (pss_one (ps_ret (pe_lc (own := [("word", 1)]) (g := gName 1) (by rfl) sc_words_of.nd (pi_listK K (pe_split (pv 0) pe_str)) (blkOk_by (own := [("word", 1)]) (N := nm_words_of) (sc := defScope s_words_of) (by decide +kernel)) (fun _ _ _ _ _ => (pg_name (i := 1) sc_words_of.nd rfl (Or.inl rfl))) (fun _ _ _ _ _ => (pts_one (pt_cmpR op_ne (pv 1) pe_str (nomark _)))) (fun _ _ _ _ _ => (pv 1))))), ?_⟩
    exact body_ok (W := (⟨K, c.cm, tkL, [(c.P_Stand_lowest, ((("Stand.lowest" : Str) ++ ".<locals>.") ++ "<lambda>"))], none⟩ : Wp)) (N := nm_words_of) (k := 1) (δ := b_words_of)
      ((ds_ret (dn_lc (t := (.nm 1)) (vs := [1]) rfl (di_list (dn_m1 md_split (dn_v (i := 0)) dn_str)) (dt_test (dn_op od_ne (dn_v (i := 1)) dn_str)) (dn_v (i := 1))))) h
abbrev sp_filled (K : PySem.W.Frag) (c : Ad) : Sp := spP (⟨K, c.cm, tkL, [(c.P_Stand_lowest, ((("Stand.lowest" : Str) ++ ".<locals>.") ++ "<lambda>"))], none⟩ : Wp) 2 d_filled
theorem ok_filled {P : Program} {w : World} {K : PySem.W.Frag} {mg : Str → Option Value} {base : Heap} {c : Ad} {f : Addr} {fd : FuncData} (T : Txt K mg c) (F : Fun K "filled" "filled" s_filled f fd)
     : FnG P w K mg base CX0 1 f fd ps_filled (sp_filled K c) := by
  refine Fun.okG F sc_filled (fun vs H Q E h => ?_) (fun cdv A outer s H vs Q E hgd hr h => ?_)
  · exact h.1
  · refine ⟨_, (pss_cons (ps_set (i := 2) sc_filled.nd rfl (Or.inl rfl) (pe_lst pa_nil))
      (pss_cons (ps_set (i := 3) sc_filled.nd rfl (Or.inl rfl) (pe_un un_neg pe_int))
      (pss_cons (ps_for PassesOwn.never rfl (pi_listK K (pv 0)) (pg_name (i := 4) sc_filled.nd rfl (Or.inl rfl))
      (pss_cons (ps_if (pt_cmpR op_gt (pe_callB call_len_str (by rfl) T.b_len (by decide +kernel) (pa_cons (pv 4) pa_nil)) (pv 3) (nomark _))
      (pss_cons (ps_expr (pe_bmK K PySem.F.plainAttrs_list PySem.F.slot_list_append PySem.F.type_list_append mt_append (pv 2) (pa_cons (pe_lst pa_nil) pa_nil)))
      (pss_one (ps_set (i := 3) sc_filled.nd rfl (Or.inl rfl) (pv 1))))
      pss_nil)
      (pss_cons (ps_expr (pe_bmK K PySem.F.plainAttrs_list PySem.F.slot_list_append PySem.F.type_list_append mt_append (pe_ix (ix_listK K) (pv 2) (pe_un un_neg pe_int) (fun _ _ => rfl)) (pa_cons (pv 4) pa_nil)))
      (pss_one (ps_aug (i := 3) sc_filled.nd rfl (Or.inl rfl) (pe_op op_add (pe_callB call_len_str (by rfl) T.b_len (by decide +kernel) (pa_cons (pv 4) pa_nil)) pe_int) ip_sub)))))
      (pss_one (ps_ret (pv 2)))))), ?_⟩
    exact body_ok (W := (⟨K, c.cm, tkL, [(c.P_Stand_lowest, ((("Stand.lowest" : Str) ++ ".<locals>.") ++ "<lambda>"))], none⟩ : Wp)) (N := nm_filled) (k := 2) (δ := b_filled)
      ((ds_seq (ds_setO (df_tr (df_lst da_nil)))
      (ds_seq (ds_set (dn_un ud_neg dn_int))
      (ds_seq (ds_for (g := (.nm 4)) (di_list (dn_v (i := 0)))
      (ds_seq (ds_if (dt_test (dn_op od_gt (dn_cb cd_lenS (da_cons (dn_v (i := 4)) da_nil)) (dn_v (i := 3))))
      (ds_seq (ds_appT (i := 2) (df_lst da_nil))
      (ds_set (dn_v (i := 1))))
      ds_next)
      (ds_seq (ds_appIx (i := 2) (dn_un ud_neg dn_int) (dn_v (i := 4)))
      (ds_aug od_sub (dn_op od_add (dn_cb cd_lenS (da_cons (dn_v (i := 4)) da_nil)) dn_int)))))
      (ds_frz (i := 2) (ds_ret (dn_v (i := 2)))))))) h
abbrev sp_spread (K : PySem.W.Frag) (c : Ad) : Sp := spP (⟨K, c.cm, tkL, [(c.P_Stand_lowest, ((("Stand.lowest" : Str) ++ ".<locals>.") ++ "<lambda>"))], none⟩ : Wp) 2 d_spread
theorem ok_spread {P : Program} {w : World} {K : PySem.W.Frag} {mg : Str → Option Value} {base : Heap} {c : Ad} {f : Addr} {fd : FuncData} (T : Txt K mg c) (F : Fun K "spread" "spread" s_spread f fd)
     : FnG P w K mg base CX0 1 f fd ps_spread (sp_spread K c) := by
  refine Fun.okG F sc_spread (fun vs H Q E h => ?_) (fun cdv A outer s H vs Q E hgd hr h => ?_)
  · exact h.1
  · refine ⟨_, (pss_cons (ps_set (i := 2) sc_spread.nd rfl (Or.inl rfl) (pe_op op_sub (pe_callB (call_lenK K) (by rfl) T.b_len (by decide +kernel) (pa_cons (pv 0) pa_nil)) pe_int))
      (pss_cons (ps_if (pt_cmpR op_eq (pv 2) pe_int (nomark _))
      (pss_one (ps_ret (pe_ix (ix_listK K) (pv 0) pe_int (fun _ _ => rfl))))
      pss_nil)
      (pss_cons (ps_asg (pe_callB call_divmod (by rfl) T.b_divmod (by decide +kernel) (pa_cons (pe_op op_sub (pv 1) (pe_callB (cr_sumK K rfl) (by rfl) T.b_sum (by decide +kernel) (pa_cons (pe_lc (own := [("word", 5)]) (g := gName 5) (tt := tYes) (by rfl) sc_spread.nd (pi_listK K (pv 0)) (blkOk_by (own := [("word", 5)]) (N := nm_spread) (sc := defScope s_spread) (by decide +kernel)) (fun _ _ _ _ _ => (pg_name (i := 5) sc_spread.nd rfl (Or.inl rfl))) (fun _ _ _ _ _ => pts_nil) (fun _ _ _ _ _ => (pe_callB call_len_str (by rfl) T.b_len (by decide +kernel) (pa_cons (pv 5) pa_nil)))) pa_nil))) (pa_cons (pv 2) pa_nil))) (pg_tupK (n := 2) K (by rfl) (pgs_cons (pg_name (i := 3) sc_spread.nd rfl (Or.inl rfl)) (pgs_cons (pg_name (i := 4) sc_spread.nd rfl (Or.inl rfl)) pgs_nil))))
      (pss_cons (ps_set (i := 6) sc_spread.nd rfl (Or.inl rfl) (pe_ix (ix_listK K) (pv 0) pe_int (fun _ _ => rfl)))
      (pss_cons (ps_for PassesOwn.never rfl (pi_enumK K (by rfl) T.b_enumerate (pa_cons (pe_slice (sl_listK K) (pv 0) (po_some pe_int) po_none) pa_nil)) (pg_tupK (n := 2) K (by rfl) (pgs_cons (pg_name (i := 7) sc_spread.nd rfl (Or.inl rfl)) (pgs_cons (pg_name (i := 5) sc_spread.nd rfl (Or.inl rfl)) pgs_nil)))
      (pss_one (ps_aug (i := 6) sc_spread.nd rfl (Or.inl rfl) (pe_op op_add_str (pe_op op_mulS pe_str (pe_op op_add (pv 3) (pe_callTy call_int1 (by rfl) T.b_int (by decide +kernel) (pa_cons (pe_cmpR op_lt (pv 7) (pv 4) (nomark _)) pa_nil)))) (pv 5)) iop_add_str)))
      (pss_one (ps_ret (pv 6)))))))), ?_⟩
    exact body_ok (W := (⟨K, c.cm, tkL, [(c.P_Stand_lowest, ((("Stand.lowest" : Str) ++ ".<locals>.") ++ "<lambda>"))], none⟩ : Wp)) (N := nm_spread) (k := 2) (δ := b_spread)
      ((ds_seq (ds_set (dn_op od_sub (dn_cb cd_lenL (da_cons (dn_v (i := 0)) da_nil)) dn_int))
      (ds_seq (ds_if (dt_test (dn_op od_eq (dn_v (i := 2)) dn_int))
      (ds_ret (dn_op od_ixL (dn_v (i := 0)) dn_int))
      ds_next)
      (ds_seq (ds_asgT (g := (.tp [(.nm 3), (.nm 4)])) (dn_cb cd_divmod (da_cons (dn_op od_sub (dn_v (i := 1)) (dn_cb cd_sum (da_cons (dn_lc (t := (.nm 5)) (vs := [5]) rfl (di_list (dn_v (i := 0))) dt_yes (dn_cb cd_lenS (da_cons (dn_v (i := 5)) da_nil))) da_nil))) (da_cons (dn_v (i := 2)) da_nil))))
      (ds_seq (ds_set (dn_op od_ixL (dn_v (i := 0)) dn_int))
      (ds_seq (ds_for (g := (.tp [(.nm 7), (.nm 5)])) (di_enum (da_cons (dn_slice sd_list (dn_v (i := 0)) (do_some dn_int) do_none) da_nil))
      (ds_aug od_add_str (dn_op od_add_str (dn_op od_mulS dn_str (dn_op od_add (dn_v (i := 3)) (dn_cb cd_int1 (da_cons (dn_op od_lt (dn_v (i := 7)) (dn_v (i := 4))) da_nil)))) (dn_v (i := 5)))))
      (ds_ret (dn_v (i := 6))))))))) h
end Nk22
set_option Elab.async false
set_option linter.all false
set_option maxRecDepth 100000
set_option maxHeartbeats 4000000
namespace Nk22
open PySem L2 Np
abbrev sp_paragraph_rows (K : PySem.W.Frag) (c : Ad) : Sp := spP (⟨K, c.cm, tkL, [(c.P_Stand_lowest, ((("Stand.lowest" : Str) ++ ".<locals>.") ++ "<lambda>"))], none⟩ : Wp) 3 d_paragraph_rows
theorem ok_paragraph_rows {P : Program} {w : World} {K : PySem.W.Frag} {mg : Str → Option Value} {base : Heap} {c : Ad} {f : Addr} {fd : FuncData} (T : Txt K mg c) (F : Fun K "paragraph_rows" "paragraph_rows" s_paragraph_rows f fd)
    {f_filled : Addr} {fd_filled : FuncData} (O_filled : OkG P w K mg base CX0 1 "filled" ps_filled (sp_filled K c) f_filled fd_filled)
    (B_filled : Binds K fd_filled ps_filled [])
    {f_parted : Addr} {fd_parted : FuncData} (O_parted : OkG P w K mg base CX0 1 "parted" ps_parted (sp_parted K c) f_parted fd_parted)
    (B_parted : Binds K fd_parted ps_parted [])
    {f_spread : Addr} {fd_spread : FuncData} (O_spread : OkG P w K mg base CX0 1 "spread" ps_spread (sp_spread K c) f_spread fd_spread)
    (B_spread : Binds K fd_spread ps_spread []) : FnG P w K mg base CX0 2 f fd ps_paragraph_rows (sp_paragraph_rows K c) := by
  refine Fun.okG F sc_paragraph_rows (fun vs H Q E h => ?_) (fun cdv A outer s H vs Q E hgd hr h => ?_)
  · exact h.1
  · refine ⟨_, (pss_cons (ps_set (i := 3) sc_paragraph_rows.nd rfl (Or.inl rfl) (pe_lst pa_nil))
      (pss_cons (ps_for PassesOwn.never rfl (pi_listK K (pv 0)) (pg_name (i := 4) sc_paragraph_rows.nd rfl (Or.inl rfl))
      (pss_one (ps_expr (pe_bmK K PySem.F.plainAttrs_list PySem.F.slot_list_extend PySem.F.type_list_extend mt_extend (pv 3) (pa_cons (pe_c (dvs := []) O_parted ⟨[], .nil, B_parted⟩ hgd (hr.mono (by decide)) pass0At (pa_cons (pv 4) (pa_cons (pv 1) pa_nil))) pa_nil)))))
      (pss_cons (ps_set (i := 5) sc_paragraph_rows.nd rfl (Or.inl rfl) (pe_c (dvs := []) O_filled ⟨[], .nil, B_filled⟩ hgd (hr.mono (by decide)) pass0At (pa_cons (pv 3) (pa_cons (pv 1) pa_nil))))
      (pss_cons (ps_setLc (i := 6) (own := [("row", 7)]) (g := gName 7) (tt := tYes) (by rfl) sc_paragraph_rows.nd rfl rfl (sw_true rfl rfl rfl (by decide +kernel)) (pi_listK K (pv 5)) (blkOk_by (own := [("row", 7)]) (N := nm_paragraph_rows) (sc := defScope s_paragraph_rows) (by decide +kernel)) (fun _ _ _ _ _ => (pg_name (i := 7) sc_paragraph_rows.nd rfl (Or.inl rfl))) (fun _ _ _ _ _ => pts_nil) (fun _ _ _ _ _ => (pe_joinK K pe_str (pv 7))))
      (pss_cons (ps_if (pt_val (pv 2))
      (pss_one (ps_set (i := 6) sc_paragraph_rows.nd rfl (Or.inl rfl) (pe_op op_cat (pe_lc (own := [("row", 7)]) (g := gName 7) (tt := tYes) (by rfl) sc_paragraph_rows.nd (pi_listK K (pe_slice (sl_listK K) (pv 5) po_none (po_some (pe_un un_neg pe_int)))) (blkOk_by (own := [("row", 7)]) (N := nm_paragraph_rows) (sc := defScope s_paragraph_rows) (by decide +kernel)) (fun _ _ _ _ _ => (pg_name (i := 7) sc_paragraph_rows.nd rfl (Or.inl rfl))) (fun _ _ _ _ _ => pts_nil) (fun _ _ _ _ _ => (pe_c (dvs := []) O_spread ⟨[], .nil, B_spread⟩ hgd (hr.mono (by decide)) pass0At (pa_cons (pv 7) (pa_cons (pv 1) pa_nil))))) (pe_slice (sl_listK K) (pv 6) (po_some (pe_un un_neg pe_int)) po_none))))
      pss_nil)
      (pss_one (ps_ret (pe_lc (own := [("row", 7)]) (g := gName 7) (tt := tYes) (by rfl) sc_paragraph_rows.nd (pi_listK K (pv 6)) (blkOk_by (own := [("row", 7)]) (N := nm_paragraph_rows) (sc := defScope s_paragraph_rows) (by decide +kernel)) (fun _ _ _ _ _ => (pg_name (i := 7) sc_paragraph_rows.nd rfl (Or.inl rfl))) (fun _ _ _ _ _ => pts_nil) (fun _ _ _ _ _ => (pe_bmK K PySem.F.plainAttrs_str PySem.F.slot_str_ljust PySem.F.type_str_ljust mt_ljust (pv 7) (pa_cons (pv 1) pa_nil))))))))))), ?_⟩
    exact body_ok (W := (⟨K, c.cm, tkL, [(c.P_Stand_lowest, ((("Stand.lowest" : Str) ++ ".<locals>.") ++ "<lambda>"))], none⟩ : Wp)) (N := nm_paragraph_rows) (k := 3) (δ := b_paragraph_rows)
      ((ds_seq (ds_setO (df_lst da_nil))
      (ds_seq (ds_for (g := (.nm 4)) (di_list (dn_v (i := 0)))
      (ds_ext (i := 3) (dn_callN (k := 2) (F := d_parted) (dv := []) (fun _ _ => .nil) (dps_cons (dp_e (dn_v (i := 4))) (dps_cons (dp_e (dn_v (i := 1))) dps_nil)))))
      (ds_seq (ds_frz (i := 3) (ds_set (dn_callN (k := 2) (F := d_filled) (dv := []) (fun _ _ => .nil) (dps_cons (dp_e (dn_v (i := 3))) (dps_cons (dp_e (dn_v (i := 1))) dps_nil)))))
      (ds_seq (ds_set (dn_lc (t := (.nm 7)) (vs := [7]) rfl (di_list (dn_v (i := 5))) dt_yes (dn_m1 md_join dn_str (dn_v (i := 7)))))
      (ds_seq (ds_if (dt_b (dn_v (i := 2)))
      (ds_set (dn_op od_cat (dn_lc (t := (.nm 7)) (vs := [7]) rfl (di_list (dn_slice sd_list (dn_v (i := 5)) do_none (do_some (dn_un ud_neg dn_int)))) dt_yes (dn_callN (k := 2) (F := d_spread) (dv := []) (fun _ _ => .nil) (dps_cons (dp_e (dn_v (i := 7))) (dps_cons (dp_e (dn_v (i := 1))) dps_nil)))) (dn_slice sd_list (dn_v (i := 6)) (do_some (dn_un ud_neg dn_int)) do_none)))
      ds_next)
      (ds_ret (dn_lc (t := (.nm 7)) (vs := [7]) rfl (di_list (dn_v (i := 6))) dt_yes (dn_bmS md_ljust (dn_v (i := 7)) (da_cons (dn_v (i := 1)) da_nil)))))))))) h
abbrev sp_set_rows (K : PySem.W.Frag) (c : Ad) : Sp := spP (⟨K, c.cm, tkL, [(c.P_Stand_lowest, ((("Stand.lowest" : Str) ++ ".<locals>.") ++ "<lambda>"))], none⟩ : Wp) 4 d_set_rows
theorem ok_set_rows {P : Program} {w : World} {K : PySem.W.Frag} {mg : Str → Option Value} {base : Heap} {c : Ad} {f : Addr} {fd : FuncData} (T : Txt K mg c) (F : FunD K "set_rows" "set_rows" (defArgs s_set_rows) (defBody s_set_rows) (defScope s_set_rows) [(.bl true), (.int 0)] [] f fd)
    {f_words_of : Addr} {fd_words_of : FuncData} (O_words_of : OkG P w K mg base CX0 1 "words_of" ps_words_of (sp_words_of K c) f_words_of fd_words_of)
    (B_words_of : Binds K fd_words_of ps_words_of [])
    {f_paragraph_rows : Addr} {fd_paragraph_rows : FuncData} (O_paragraph_rows : OkG P w K mg base CX0 2 "paragraph_rows" ps_paragraph_rows (sp_paragraph_rows K c) f_paragraph_rows fd_paragraph_rows)
    (B_paragraph_rows : Binds K fd_paragraph_rows ps_paragraph_rows []) : FnG P w K mg base CX0 3 f fd ps_set_rows (sp_set_rows K c) := by
  refine FunD.okG (CX := CX0) F sc_set_rows (fun vs H Q E h => ?_) (fun cdv A outer s H vs Q E hgd hr h => ?_)
  · exact h.1
  · refine ⟨_, PSs.nox ((pss_cons (ps_set (i := 4) sc_set_rows.nd rfl (Or.inl rfl) (pe_lst pa_nil))
      (pss_cons (ps_for PassesOwn.never rfl (pi_listK K (pe_split (pv 0) pe_str)) (pg_name (i := 5) sc_set_rows.nd rfl (Or.inl rfl))
      (pss_cons (ps_set (i := 6) sc_set_rows.nd rfl (Or.inl rfl) (pe_c (dvs := []) O_words_of ⟨[], .nil, B_words_of⟩ hgd (hr.mono (by decide)) pass0At (pa_cons (pv 5) pa_nil)))
      (pss_one (ps_if (pt_cmpR (op_neDK K hr.units) (pv 6) (pe_lst pa_nil) (nomark _))
      (pss_cons (ps_if (pt_cmpR (op_neDK K hr.units) (pv 4) (pe_lst pa_nil) (nomark _))
      (pss_one (ps_expr (pe_bmK K PySem.F.plainAttrs_list PySem.F.slot_list_extend PySem.F.type_list_extend mt_extend (pv 4) (pa_cons (pe_lc (own := [("turn", 7)]) (g := gName 7) (tt := tYes) (by rfl) sc_set_rows.nd (pi_range1 (by rfl) T.b_range (pa_cons (pv 3) pa_nil)) (blkOk_by (own := [("turn", 7)]) (N := nm_set_rows) (sc := defScope s_set_rows) (by decide +kernel)) (fun _ _ _ _ _ => (pg_name (i := 7) sc_set_rows.nd rfl (Or.inl rfl))) (fun _ _ _ _ _ => pts_nil) (fun _ _ _ _ _ => (pe_op op_mulS pe_str (pv 1)))) pa_nil))))
      pss_nil)
      (pss_one (ps_expr (pe_bmK K PySem.F.plainAttrs_list PySem.F.slot_list_extend PySem.F.type_list_extend mt_extend (pv 4) (pa_cons (pe_c (dvs := []) O_paragraph_rows ⟨[], .nil, B_paragraph_rows⟩ hgd (hr.mono (by decide)) pass0At (pa_cons (pv 6) (pa_cons (pv 1) (pa_cons (pv 2) pa_nil)))) pa_nil)))))
      pss_nil))))
      (pss_one (ps_ret (pv 4)))))), ?_⟩
    exact body_ok (W := (⟨K, c.cm, tkL, [(c.P_Stand_lowest, ((("Stand.lowest" : Str) ++ ".<locals>.") ++ "<lambda>"))], none⟩ : Wp)) (N := nm_set_rows) (k := 4) (δ := b_set_rows)
      ((ds_seq (ds_setO (df_lst da_nil))
      (ds_seq (ds_for (g := (.nm 5)) (di_list (dn_m1 md_split (dn_v (i := 0)) dn_str))
      (ds_seq (ds_set (dn_callN (k := 1) (F := d_words_of) (dv := []) (fun _ _ => .nil) (dps_cons (dp_e (dn_v (i := 5))) dps_nil)))
      (ds_if (dt_test (dn_op od_neD (dn_v (i := 6)) (dn_lst da_nil)))
      (ds_seq (ds_if (dt_bor (i := 4) (dt_test (dn_op od_neD (dn_v (i := 4)) (dn_lst da_nil))))
      (ds_ext (i := 4) (dn_lc (t := (.nm 7)) (vs := [7]) rfl (di_range1 (da_cons (dn_v (i := 3)) da_nil)) dt_yes (dn_op od_mulS dn_str (dn_v (i := 1)))))
      ds_next)
      (ds_ext (i := 4) (dn_callN (k := 3) (F := d_paragraph_rows) (dv := []) (fun _ _ => .nil) (dps_cons (dp_e (dn_v (i := 6))) (dps_cons (dp_e (dn_v (i := 1))) (dps_cons (dp_e (dn_v (i := 2))) dps_nil))))))
      ds_next)))
      (ds_frz (i := 4) (ds_ret (dn_v (i := 4))))))) h
end Nk22
set_option Elab.async false
set_option linter.all false
set_option maxRecDepth 100000
set_option maxHeartbeats 4000000
namespace Nk22
open PySem L2 Np
abbrev sp_framed (K : PySem.W.Frag) (c : Ad) : Sp := spP (⟨K, c.cm, tkL, [(c.P_Stand_lowest, ((("Stand.lowest" : Str) ++ ".<locals>.") ++ "<lambda>"))], none⟩ : Wp) 1 d_framed
theorem ok_framed {P : Program} {w : World} {K : PySem.W.Frag} {mg : Str → Option Value} {base : Heap} {c : Ad} {f : Addr} {fd : FuncData} (T : Txt K mg c) (F : Fun K "framed" "framed" s_framed f fd)
    (ME_Block_lines : MeC P w K mg base CX0 1 c.Block "lines" ps_Block_lines (sp_Block_lines K c))
    (MC_Block_2_ : MkC P w K mg base (L2.CX P w) 4 c.Block ps_BlockD_initD (sp_BlockD_initD K c) 2 [] (pickL [] (.a 0 :: [.a 0, .a 1].map shIx))) : FnG P w K mg base CX0 6 f fd ps_framed (sp_framed K c) := by
  refine Fun.okG F sc_framed (fun vs H Q E h => ?_) (fun cdv A outer s H vs Q E hgd hr h => ?_)
  · exact h.1
  · refine ⟨_, (pss_cons (ps_set (i := 1) sc_framed.nd rfl (Or.inl rfl) (pe_op op_add_str (pe_op op_add_str pe_str (pe_op op_mulS pe_str (pe_op op_add (pe_fldK K (pv 0)) pe_int))) pe_str))
      (pss_cons (ps_setLc (i := 2) (own := [("row", 3)]) (g := gName 3) (tt := tYes) (by rfl) sc_framed.nd rfl rfl (sw_true rfl rfl rfl (by decide +kernel)) (pi_listK K (pe_mG0 ME_Block_lines T.cls_Block hgd (hr.mono (by decide)) pass0At (pv 0))) (blkOk_by (own := [("row", 3)]) (N := nm_framed) (sc := defScope s_framed) (by decide +kernel)) (fun _ _ _ _ _ => (pg_name (i := 3) sc_framed.nd rfl (Or.inl rfl))) (fun _ _ _ _ _ => pts_nil) (fun _ _ _ _ _ => (pe_joined (.cons pe_str (.cons (pe_fmt (pv 3)) (.cons pe_str .nil))))))
      (pss_one (ps_ret (pe_mkP MC_Block_2_ hgd (hr.mono (by decide)) T.g_Block passLAt (pa_cons (pe_op op_cat (pe_op op_cat (pe_lst (pa_cons (pv 1) pa_nil)) (pv 2)) (pe_lst (pa_cons (pv 1) pa_nil))) (pa_cons (pe_op op_add (pe_fldK K (pv 0)) pe_int) pa_nil))))))), ?_⟩
    exact body_ok (W := (⟨K, c.cm, tkL, [(c.P_Stand_lowest, ((("Stand.lowest" : Str) ++ ".<locals>.") ++ "<lambda>"))], none⟩ : Wp)) (N := nm_framed) (k := 1) (δ := b_framed)
      ((ds_seq (ds_set (dn_op od_add_str (dn_op od_add_str dn_str (dn_op od_mulS dn_str (dn_op od_add (dn_fld (cls := "Block") (by dsimp only; rw [T.cm_Block]; exact T.cls_Block) (by dsimp only; rw [T.cm_Block]; exact T.no_Block_wide) (dn_v (i := 0))) dn_int))) dn_str))
      (ds_seq (ds_set (dn_lc (t := (.nm 3)) (vs := [3]) rfl (di_list (dn_fz (df_methN (k := 1) (cls := "Block") (m := "lines") (F := d_Block_lines) T.cm_Block (dn_v (i := 0)) dps_nil))) dt_yes (dn_joined (.cons dn_str (.cons (dn_fmt (dn_v (i := 3))) (.cons dn_str .nil))))))
      (ds_ret (dn_mkN' (k := 3) (cls := "Block") (F := d_BlockD_initD) (dv := []) (ix := [.a 0, .a 1]) T.cm_Block (fun _ _ => .nil) (dps_cons (dp_e (dn_op od_cat (dn_op od_cat (dn_lst (da_cons (dn_v (i := 1)) da_nil)) (dn_v (i := 2))) (dn_lst (da_cons (dn_v (i := 1)) da_nil)))) (dps_cons (dp_e (dn_op od_add (dn_fld (cls := "Block") (by dsimp only; rw [T.cm_Block]; exact T.cls_Block) (by dsimp only; rw [T.cm_Block]; exact T.no_Block_wide) (dn_v (i := 0))) dn_int)) dps_nil)) dps_nil))))) h
abbrev sp_wide_of (K : PySem.W.Frag) (c : Ad) : Sp := spP (⟨K, c.cm, tkL, [(c.P_Stand_lowest, ((("Stand.lowest" : Str) ++ ".<locals>.") ++ "<lambda>"))], none⟩ : Wp) 2 d_wide_of
theorem ok_wide_of {P : Program} {w : World} {K : PySem.W.Frag} {mg : Str → Option Value} {base : Heap} {c : Ad} {f : Addr} {fd : FuncData} (T : Txt K mg c) (F : Fun K "wide_of" "wide_of" s_wide_of f fd)
     : FnG P w K mg base CX0 1 f fd ps_wide_of (sp_wide_of K c) := by
  refine Fun.okG F sc_wide_of (fun vs H Q E h => ?_) (fun cdv A outer s H vs Q E hgd hr h => ?_)
  · exact h.1
  · refine ⟨_, (pss_one (ps_ret (pe_op op_add (pe_op op_mul (pv 1) (pe_ix (ix_tupK K) (pv 0) pe_int (fun _ _ => rfl))) (pe_op op_mul (pe_op op_sub (pv 1) pe_int) (pe_g T.g_BETWEEN))))), ?_⟩
    exact body_ok (W := (⟨K, c.cm, tkL, [(c.P_Stand_lowest, ((("Stand.lowest" : Str) ++ ".<locals>.") ++ "<lambda>"))], none⟩ : Wp)) (N := nm_wide_of) (k := 2) (δ := b_wide_of)
      ((ds_ret (dn_op od_add (dn_op od_mul (dn_v (i := 1)) (dn_op od_ixT (dn_v (i := 0)) dn_int)) (dn_op od_mul (dn_op od_sub (dn_v (i := 1)) dn_int) dn_int)))) h
abbrev sp_ad_block (K : PySem.W.Frag) (c : Ad) : Sp := spP (⟨K, c.cm, tkL, [(c.P_Stand_lowest, ((("Stand.lowest" : Str) ++ ".<locals>.") ++ "<lambda>"))], none⟩ : Wp) 2 d_ad_block
theorem ok_ad_block {P : Program} {w : World} {K : PySem.W.Frag} {mg : Str → Option Value} {base : Heap} {c : Ad} {f : Addr} {fd : FuncData} (T : Txt K mg c) (F : Fun K "ad_block" "ad_block" s_ad_block f fd)
    {f_framed : Addr} {fd_framed : FuncData} (O_framed : OkG P w K mg base CX0 6 "framed" ps_framed (sp_framed K c) f_framed fd_framed)
    (B_framed : Binds K fd_framed ps_framed [])
    {f_wide_of : Addr} {fd_wide_of : FuncData} (O_wide_of : OkG P w K mg base CX0 1 "wide_of" ps_wide_of (sp_wide_of K c) f_wide_of fd_wide_of)
    (B_wide_of : Binds K fd_wide_of ps_wide_of [])
    {f_set_rows : Addr} {fd_set_rows : FuncData} (O_set_rows : OkG P w K mg base CX0 3 "set_rows" ps_set_rows (sp_set_rows K c) f_set_rows fd_set_rows)
    (KB_set_rows_2_full : KB K fd_set_rows ps_set_rows 2 ["full"] (pickL [(.bl true), (.int 0)] [.a 0, .a 1, .z 0, .c 1]))
    (MC_Block_2_ : MkC P w K mg base (L2.CX P w) 4 c.Block ps_BlockD_initD (sp_BlockD_initD K c) 2 [] (pickL [] (.a 0 :: [.a 0, .a 1].map shIx))) : FnG P w K mg base CX0 7 f fd ps_ad_block (sp_ad_block K c) := by
  refine Fun.okG F sc_ad_block (fun vs H Q E h => ?_) (fun cdv A outer s H vs Q E hgd hr h => ?_)
  · exact h.1
  · refine ⟨_, (pss_cons (ps_asg (pv 1) (pg_tupK (n := 3) K (by rfl) (pgs_cons (pg_name (i := 2) sc_ad_block.nd rfl (Or.inl rfl)) (pgs_cons (pg_name (i := 3) sc_ad_block.nd rfl (Or.inl rfl)) (pgs_cons (pg_name (i := 4) sc_ad_block.nd rfl (Or.inl rfl)) pgs_nil)))))
      (pss_cons (ps_set (i := 5) sc_ad_block.nd rfl (Or.inl rfl) (pe_op op_sub (pe_c (dvs := []) O_wide_of ⟨[], .nil, B_wide_of⟩ hgd (hr.mono (by decide)) pass0At (pa_cons (pv 0) (pa_cons (pv 3) pa_nil))) (pe_g T.g_EDGES)))
      (pss_one (ps_ret (pe_c (dvs := []) O_framed ⟨[], .nil, B_framed⟩ hgd (hr.mono (by decide)) pass0At (pa_cons (pe_mkP MC_Block_2_ hgd (hr.mono (by decide)) T.g_Block passLAt (pa_cons (pe_ck O_set_rows KB_set_rows_2_full hgd (hr.mono (by decide)) pass0At (pa_cons (pv 4) (pa_cons (pv 5) pa_nil)) (pk_cons pe_bl pk_nil)) (pa_cons (pv 5) pa_nil))) pa_nil)))))), ?_⟩
    exact body_ok (W := (⟨K, c.cm, tkL, [(c.P_Stand_lowest, ((("Stand.lowest" : Str) ++ ".<locals>.") ++ "<lambda>"))], none⟩ : Wp)) (N := nm_ad_block) (k := 2) (δ := b_ad_block)
      ((ds_seq (ds_asgT (g := (.tp [(.nm 2), (.nm 3), (.nm 4)])) (dn_v (i := 1)))
      (ds_seq (ds_set (dn_op od_sub (dn_callN (k := 2) (F := d_wide_of) (dv := []) (fun _ _ => .nil) (dps_cons (dp_e (dn_v (i := 0))) (dps_cons (dp_e (dn_v (i := 3))) dps_nil))) dn_int))
      (ds_ret (dn_callN (k := 1) (F := d_framed) (dv := []) (fun _ _ => .nil) (dps_cons (dp_e (dn_mkN' (k := 3) (cls := "Block") (F := d_BlockD_initD) (dv := []) (ix := [.a 0, .a 1]) T.cm_Block (fun _ _ => .nil) (dps_cons (dp_e (dn_kwN (k := 4) (F := d_set_rows) (ix := [.a 0, .a 1, .z 0, .c 1]) (dv := [.fr (.bl true), .fr (.int 0)]) (fun _ _ => .cons (show ArgR _ _ _ _ (.fr (.bl true)) from Rp.bl _) (.cons (show ArgR _ _ _ _ (.fr (.int 0)) from Rp.int _) (.nil))) (dps_cons (dp_e (dn_v (i := 4))) (dps_cons (dp_e (dn_v (i := 5))) dps_nil)) (dps_cons (dp_e dn_bl) dps_nil))) (dps_cons (dp_e (dn_v (i := 5))) dps_nil)) dps_nil)) dps_nil)))))) h
end Nk22
set_option Elab.async false
set_option linter.all false
set_option maxRecDepth 100000
set_option maxHeartbeats 4000000
namespace Nk22
open PySem L2 Np
abbrev sp_StandD_initD (K : PySem.W.Frag) (c : Ad) : Sp := spP (⟨K, c.cm, tkL, [(c.P_Stand_lowest, ((("Stand.lowest" : Str) ++ ".<locals>.") ++ "<lambda>"))], none⟩ : Wp) 3 d_StandD_initD
theorem ok_StandD_initD {P : Program} {w : World} {K : PySem.W.Frag} {mg : Str → Option Value} {base : Heap} {c : Ad} {f : Addr} {fd : FuncData} (T : Txt K mg c) (F : Fun K "__init__" "Stand.__init__" s_StandD_initD f fd)
     : FnG P w K mg base CX0 1 f fd ps_StandD_initD (sp_StandD_initD K c) := by
  refine Fun.okG F sc_StandD_initD (fun vs H Q E h => ?_) (fun cdv A outer s H vs Q E hgd hr h => ?_)
  · exact h.1
  · refine ⟨_, (pss_cons (ps_fldK K (pv 0) (pv 1) (by rfl))
      (pss_cons (ps_fldK K (pv 0) (pv 2) (by rfl))
      (pss_cons (ps_fldK K (pv 0) (pe_op op_rep (pe_lst (pa_cons pe_int pa_nil)) (pe_ix (ix_tupK K) (pv 1) pe_int (fun _ _ => rfl))) (by rfl))
      (pss_cons (ps_fldK K (pv 0) (pe_lst pa_nil) (by rfl))
      (pss_cons (ps_fldK K (pv 0) (pe_lst pa_nil) (by rfl))
      (pss_one (ps_fldK K (pv 0) (pe_lst pa_nil) (by rfl)))))))), ?_⟩
    exact body_ok (W := (⟨K, c.cm, tkL, [(c.P_Stand_lowest, ((("Stand.lowest" : Str) ++ ".<locals>.") ++ "<lambda>"))], none⟩ : Wp)) (N := nm_StandD_initD) (k := 3) (δ := b_StandD_initD)
      ((ds_seq (ds_sfset (cls := "Stand") (f := "form") (fun _ _ _ => rfl) (by dsimp only; rw [T.cm_Stand]; exact T.cls_Stand) (by dsimp only; rw [T.cm_Stand]; exact T.no_Stand_form) (dn_v (i := 0)) (dn_v (i := 1)))
      (ds_seq (ds_sfset (cls := "Stand") (f := "keep") (fun _ _ _ => rfl) (by dsimp only; rw [T.cm_Stand]; exact T.cls_Stand) (by dsimp only; rw [T.cm_Stand]; exact T.no_Stand_keep) (dn_v (i := 0)) (dn_v (i := 2)))
      (ds_seq (ds_sfset (cls := "Stand") (f := "tops") (fun _ _ _ => rfl) (by dsimp only; rw [T.cm_Stand]; exact T.cls_Stand) (by dsimp only; rw [T.cm_Stand]; exact T.no_Stand_tops) (dn_v (i := 0)) (dn_sto (fun _ _ _ => rfl) (df_op of_rep (dn_lst (da_cons dn_int da_nil)) (dn_op od_ixT (dn_v (i := 1)) dn_int))))
      (ds_seq (ds_sfset (cls := "Stand") (f := "spots") (fun _ _ _ => rfl) (by dsimp only; rw [T.cm_Stand]; exact T.cls_Stand) (by dsimp only; rw [T.cm_Stand]; exact T.no_Stand_spots) (dn_v (i := 0)) (dn_sto (fun _ _ _ => rfl) (df_lst da_nil)))
      (ds_seq (ds_sfset (cls := "Stand") (f := "blocks") (fun _ _ _ => rfl) (by dsimp only; rw [T.cm_Stand]; exact T.cls_Stand) (by dsimp only; rw [T.cm_Stand]; exact T.no_Stand_blocks) (dn_v (i := 0)) (dn_sto (fun _ _ _ => rfl) (df_lst da_nil)))
      (ds_sfset (cls := "Stand") (f := "unstood") (fun _ _ _ => rfl) (by dsimp only; rw [T.cm_Stand]; exact T.cls_Stand) (by dsimp only; rw [T.cm_Stand]; exact T.no_Stand_unstood) (dn_v (i := 0)) (dn_sto (fun _ _ _ => rfl) (df_lst da_nil))))))))) h
abbrev sp_Stand_top_over (K : PySem.W.Frag) (c : Ad) : Sp := spP (⟨K, c.cm, tkL, [(c.P_Stand_lowest, ((("Stand.lowest" : Str) ++ ".<locals>.") ++ "<lambda>"))], none⟩ : Wp) 3 d_Stand_top_over
theorem ok_Stand_top_over {P : Program} {w : World} {K : PySem.W.Frag} {mg : Str → Option Value} {base : Heap} {c : Ad} {f : Addr} {fd : FuncData} (T : Txt K mg c) (F : Fun K "top_over" "Stand.top_over" s_Stand_top_over f fd)
     : FnG P w K mg base CX0 1 f fd ps_Stand_top_over (sp_Stand_top_over K c) := by
  refine Fun.okG F sc_Stand_top_over (fun vs H Q E h => ?_) (fun cdv A outer s H vs Q E hgd hr h => ?_)
  · exact h.1
  · refine ⟨_, (pss_one (ps_ret (pe_callB (cr_maxK K rfl) (by rfl) T.b_max (by decide +kernel) (pa_cons (pe_slice (sl_listK K) (pe_fldK K (pv 0)) (po_some (pv 1)) (po_some (pe_op op_add (pv 1) (pv 2)))) pa_nil)))), ?_⟩
    exact body_ok (W := (⟨K, c.cm, tkL, [(c.P_Stand_lowest, ((("Stand.lowest" : Str) ++ ".<locals>.") ++ "<lambda>"))], none⟩ : Wp)) (N := nm_Stand_top_over) (k := 3) (δ := b_Stand_top_over)
      ((ds_ret (dn_cb cd_maxL (da_cons (dn_ssl (dn_sfld (cls := "Stand") (by dsimp only; rw [T.cm_Stand]; exact T.cls_Stand) (by dsimp only; rw [T.cm_Stand]; exact T.no_Stand_tops) (dn_v (i := 0))) (do_some (dn_v (i := 1))) (do_some (dn_op od_add (dn_v (i := 1)) (dn_v (i := 2))))) da_nil)))) h
abbrev sp_Stand_lowest (K : PySem.W.Frag) (c : Ad) : Sp := spP (⟨K, c.cm, tkL, [(c.P_Stand_lowest, ((("Stand.lowest" : Str) ++ ".<locals>.") ++ "<lambda>"))], none⟩ : Wp) 2 d_Stand_lowest
theorem ok_Stand_lowest {P : Program} {w : World} {K : PySem.W.Frag} {mg : Str → Option Value} {base : Heap} {c : Ad} {f : Addr} {fd : FuncData} (T : Txt K mg c) (F : Fun K "lowest" "Stand.lowest" s_Stand_lowest f fd)
    (ME_Stand_top_over : MeC P w K mg base CX0 1 c.Stand "top_over" ps_Stand_top_over (sp_Stand_top_over K c))
    (TB_Stand_lowest : LamX.TabB base mg c.Q_Stand_lowest c.P_Stand_lowest)
    (HC_Stand_lowest : fd.code = .ref c.Q_Stand_lowest) : FnG P w K mg base CX0 8 f fd ps_Stand_lowest (sp_Stand_lowest K c) := by
  refine Np.Fun.okC F sc_Stand_lowest (fun vs H Q E h => ?_) (fun A outer s H vs Q E hgd hr h => ?_)
  · exact h.1
  · refine ⟨_, (pss_cons (ps_set (i := 2) sc_Stand_lowest.nd rfl (Or.inl rfl) (pe_listRg rfl (by rfl) T.b_list (prg_1 (by rfl) T.b_range (pe_op op_add (pe_op op_sub (pe_ix (ix_tupK K) (pe_fldK K (pv 0)) pe_int (fun _ _ => rfl)) (pv 1)) pe_int))))
      (pss_one (ps_ret (pe_minKS (T := [(c.P_Stand_lowest, ((("Stand.lowest" : Str) ++ ".<locals>.") ++ "<lambda>"))]) (i := 3) (k := 3) (p := "begin") (lamS1_of (by show lamS1B _ (defScope s_Stand_lowest) _ = true; decide +kernel)) sc_Stand_lowest.nd rfl (fun _ _ _ _ _ _ => rfl) (hr.mono (by decide)) (fun A outer s H f c' hr hg => have hgd := hg.trans hgd; (pe_tup (pa_cons (pe_mG ME_Stand_top_over T.cls_Stand hgd (hr.mono (by decide)) pass0At (pv 0) (pa_cons (pv 3) (pa_cons (pv 1) pa_nil))) (pa_cons (pe_op op_sub pe_int (pv 3)) pa_nil)))) TB_Stand_lowest HC_Stand_lowest (.head _) (fun q hq _ => by rw [List.mem_singleton.mp hq]; rfl) rfl (by rfl) T.b_min (by decide +kernel) (pa_cons (pv 2) pa_nil))))), ?_⟩
    exact body_ok (W := (⟨K, c.cm, tkL, [(c.P_Stand_lowest, ((("Stand.lowest" : Str) ++ ".<locals>.") ++ "<lambda>"))], none⟩ : Wp)) (N := nm_Stand_lowest) (k := 2) (δ := b_Stand_lowest)
      ((ds_seq (ds_set (dn_listRg1 (dn_op od_add (dn_op od_sub (dn_op od_ixT (dn_sfld (cls := "Stand") (by dsimp only; rw [T.cm_Stand]; exact T.cls_Stand) (by dsimp only; rw [T.cm_Stand]; exact T.no_Stand_form) (dn_v (i := 0))) dn_int) (dn_v (i := 1))) dn_int)))
      (ds_ret (dn_bestSt (W := (⟨K, c.cm, tkL, [(c.P_Stand_lowest, ((("Stand.lowest" : Str) ++ ".<locals>.") ++ "<lambda>"))], none⟩ : Wp)) (P := c.P_Stand_lowest) (i := 3) (lt := (fun a b => PySem.W.dataLt a b)) (best := bestD) (fun _ => rfl) (fun _ _ => ⟨rfl, rfl⟩) (da_cons (dn_v (i := 2)) da_nil) (dn_tup (da_cons (dn_smeN (k := 3) (cls := "Stand") (m := "top_over") (F := d_Stand_top_over) T.cm_Stand (dn_v (i := 0)) (dps_cons (dp_e (dn_v (i := 3))) (dps_cons (dp_e (dn_v (i := 1))) dps_nil))) (da_cons (dn_op od_sub dn_int (dn_v (i := 3))) da_nil))))))) h
end Nk22
set_option Elab.async false
set_option linter.all false
set_option maxRecDepth 100000
set_option maxHeartbeats 4000000
namespace Nk22
open PySem L2 Np
abbrev sp_Stand_put (K : PySem.W.Frag) (c : Ad) : Sp := spP (⟨K, c.cm, tkL, [(c.P_Stand_lowest, ((("Stand.lowest" : Str) ++ ".<locals>.") ++ "<lambda>"))], none⟩ : Wp) 2 d_Stand_put
theorem ok_Stand_put {P : Program} {w : World} {K : PySem.W.Frag} {mg : Str → Option Value} {base : Heap} {c : Ad} {f : Addr} {fd : FuncData} (T : Txt K mg c) (F : Fun K "put" "Stand.put" s_Stand_put f fd)
    {f_ad_block : Addr} {fd_ad_block : FuncData} (O_ad_block : OkG P w K mg base CX0 7 "ad_block" ps_ad_block (sp_ad_block K c) f_ad_block fd_ad_block)
    (B_ad_block : Binds K fd_ad_block ps_ad_block [])
    (SP_BlockD_lenD : SpC P w K mg base 1 c.Block "__len__" ps_BlockD_lenD (sp_BlockD_lenD K c))
    (ME_Stand_lowest : MeC P w K mg base CX0 8 c.Stand "lowest" ps_Stand_lowest (sp_Stand_lowest K c))
    (ME_Stand_top_over : MeC P w K mg base CX0 1 c.Stand "top_over" ps_Stand_top_over (sp_Stand_top_over K c)) : FnG P w K mg base CX0 9 f fd ps_Stand_put (sp_Stand_put K c) := by
  refine Fun.okG F sc_Stand_put (fun vs H Q E h => ?_) (fun cdv A outer s H vs Q E hgd hr h => ?_)
  · exact h.1
  · refine ⟨_, (pss_cons (ps_asg (pv 1) (pg_tupK (n := 3) K (by rfl) (pgs_cons (pg_name (i := 2) sc_Stand_put.nd rfl (Or.inl rfl)) (pgs_cons (pg_name (i := 3) sc_Stand_put.nd rfl (Or.inl rfl)) (pgs_cons (pg_name (i := 4) sc_Stand_put.nd rfl (Or.inl rfl)) pgs_nil)))))
      (pss_cons (ps_set (i := 5) sc_Stand_put.nd rfl (Or.inl rfl) (pe_c (dvs := []) O_ad_block ⟨[], .nil, B_ad_block⟩ hgd (hr.mono (by decide)) pass0At (pa_cons (pe_fldK K (pv 0)) (pa_cons (pv 1) pa_nil))))
      (pss_cons (ps_set (i := 6) sc_Stand_put.nd rfl (Or.inl rfl) (pe_callB (cr_lenC SP_BlockD_lenD hgd (hr.mono (by decide))) (by rfl) T.b_len (by decide +kernel) (pa_cons (pv 5) pa_nil)))
      (pss_cons (ps_set (i := 7) sc_Stand_put.nd rfl (Or.inl rfl) (pe_mG ME_Stand_lowest T.cls_Stand hgd (hr.mono (by decide)) pass0At (pv 0) (pa_cons (pv 3) pa_nil)))
      (pss_cons (ps_set (i := 8) sc_Stand_put.nd rfl (Or.inl rfl) (pe_mG ME_Stand_top_over T.cls_Stand hgd (hr.mono (by decide)) pass0At (pv 0) (pa_cons (pv 7) (pa_cons (pv 3) pa_nil))))
      (pss_cons (ps_if (pt_cmpR op_gt (pe_op op_add (pe_op op_add (pv 8) (pv 6)) (pe_fldK K (pv 0))) (pe_ix (ix_tupK K) (pe_fldK K (pv 0)) pe_int (fun _ _ => rfl)) (nomark _))
      (pss_cons (ps_expr (pe_bmK K PySem.F.plainAttrs_list PySem.F.slot_list_append PySem.F.type_list_append mt_append (pe_fldK K (pv 0)) (pa_cons (pv 2) pa_nil)))
      (pss_one ps_retN))
      pss_nil)
      (pss_cons (ps_expr (pe_bmK K PySem.F.plainAttrs_list PySem.F.slot_list_append PySem.F.type_list_append mt_append (pe_fldK K (pv 0)) (pa_cons (pe_tup (pa_cons (pv 2) (pa_cons (pv 7) (pa_cons (pe_op op_sub (pe_op op_sub (pe_ix (ix_tupK K) (pe_fldK K (pv 0)) pe_int (fun _ _ => rfl)) (pv 8)) (pv 6)) (pa_cons (pv 6) pa_nil))))) pa_nil)))
      (pss_cons (ps_expr (pe_bmK K PySem.F.plainAttrs_list PySem.F.slot_list_append PySem.F.type_list_append mt_append (pe_fldK K (pv 0)) (pa_cons (pv 5) pa_nil)))
      (pss_one (ps_for PassesOwn.never rfl (pi_range2 (by rfl) T.b_range (pa_cons (pv 7) (pa_cons (pe_op op_add (pv 7) (pv 3)) pa_nil))) (pg_name (i := 9) sc_Stand_put.nd rfl (Or.inl rfl))
      (pss_one (ps_asg (pe_op op_add (pv 8) (pv 6)) (pg_sub (pe_fldK K (pv 0)) (pv 9) set_list))))))))))))), ?_⟩
    exact body_ok (W := (⟨K, c.cm, tkL, [(c.P_Stand_lowest, ((("Stand.lowest" : Str) ++ ".<locals>.") ++ "<lambda>"))], none⟩ : Wp)) (N := nm_Stand_put) (k := 2) (δ := b_Stand_put)
      ((ds_seq (ds_asgT (g := (.tp [(.nm 2), (.nm 3), (.nm 4)])) (dn_v (i := 1)))
      (ds_seq (ds_set (dn_callN (k := 2) (F := d_ad_block) (dv := []) (fun _ _ => .nil) (dps_cons (dp_e (dn_sfld (cls := "Stand") (by dsimp only; rw [T.cm_Stand]; exact T.cls_Stand) (by dsimp only; rw [T.cm_Stand]; exact T.no_Stand_form) (dn_v (i := 0)))) (dps_cons (dp_e (dn_v (i := 1))) dps_nil))))
      (ds_seq (ds_set (dn_lenO (cls := "Block") (F := d_BlockD_lenD) T.cm_Block (da_cons (dn_v (i := 5)) da_nil)))
      (ds_seq (ds_set (dn_smeN (k := 2) (cls := "Stand") (m := "lowest") (F := d_Stand_lowest) T.cm_Stand (dn_v (i := 0)) (dps_cons (dp_e (dn_v (i := 3))) dps_nil)))
      (ds_seq (ds_set (dn_smeN (k := 3) (cls := "Stand") (m := "top_over") (F := d_Stand_top_over) T.cm_Stand (dn_v (i := 0)) (dps_cons (dp_e (dn_v (i := 7))) (dps_cons (dp_e (dn_v (i := 3))) dps_nil))))
      (ds_seq (ds_if (dt_test (dn_op od_gt (dn_op od_add (dn_op od_add (dn_v (i := 8)) (dn_v (i := 6))) (dn_sfld (cls := "Stand") (by dsimp only; rw [T.cm_Stand]; exact T.cls_Stand) (by dsimp only; rw [T.cm_Stand]; exact T.no_Stand_keep) (dn_v (i := 0)))) (dn_op od_ixT (dn_sfld (cls := "Stand") (by dsimp only; rw [T.cm_Stand]; exact T.cls_Stand) (by dsimp only; rw [T.cm_Stand]; exact T.no_Stand_form) (dn_v (i := 0))) dn_int)))
      (ds_seq (ds_stApp (fun _ _ _ => rfl) (dn_sfld (cls := "Stand") (by dsimp only; rw [T.cm_Stand]; exact T.cls_Stand) (by dsimp only; rw [T.cm_Stand]; exact T.no_Stand_unstood) (dn_v (i := 0))) (dn_v (i := 2)))
      ds_retN)
      ds_next)
      (ds_seq (ds_stApp (fun _ _ _ => rfl) (dn_sfld (cls := "Stand") (by dsimp only; rw [T.cm_Stand]; exact T.cls_Stand) (by dsimp only; rw [T.cm_Stand]; exact T.no_Stand_spots) (dn_v (i := 0))) (dn_tup (da_cons (dn_v (i := 2)) (da_cons (dn_v (i := 7)) (da_cons (dn_op od_sub (dn_op od_sub (dn_op od_ixT (dn_sfld (cls := "Stand") (by dsimp only; rw [T.cm_Stand]; exact T.cls_Stand) (by dsimp only; rw [T.cm_Stand]; exact T.no_Stand_form) (dn_v (i := 0))) dn_int) (dn_v (i := 8))) (dn_v (i := 6))) (da_cons (dn_v (i := 6)) da_nil))))))
      (ds_seq (ds_stApp (fun _ _ _ => rfl) (dn_sfld (cls := "Stand") (by dsimp only; rw [T.cm_Stand]; exact T.cls_Stand) (by dsimp only; rw [T.cm_Stand]; exact T.no_Stand_blocks) (dn_v (i := 0))) (dn_v (i := 5)))
      (ds_for (g := (.nm 9)) (di_range2 (da_cons (dn_v (i := 7)) (da_cons (dn_op od_add (dn_v (i := 7)) (dn_v (i := 3))) da_nil)))
      (ds_stPut (fun _ _ _ => rfl) (dn_sfld (cls := "Stand") (by dsimp only; rw [T.cm_Stand]; exact T.cls_Stand) (by dsimp only; rw [T.cm_Stand]; exact T.no_Stand_tops) (dn_v (i := 0))) (dn_v (i := 9)) (dn_op od_add (dn_v (i := 8)) (dn_v (i := 6)))))))))))))) h
end Nk22
set_option Elab.async false
set_option linter.all false
set_option maxRecDepth 100000
set_option maxHeartbeats 4000000
namespace Nk22
open PySem L2 Np
abbrev sp_stood (K : PySem.W.Frag) (c : Ad) : Sp := spP (⟨K, c.cm, tkL, [(c.P_Stand_lowest, ((("Stand.lowest" : Str) ++ ".<locals>.") ++ "<lambda>"))], none⟩ : Wp) 3 d_stood
theorem ok_stood {P : Program} {w : World} {K : PySem.W.Frag} {mg : Str → Option Value} {base : Heap} {c : Ad} {f : Addr} {fd : FuncData} (T : Txt K mg c) (F : Fun K "stood" "stood" s_stood f fd)
    (MC_Stand_2_ : MkC P w K mg base CX0 1 c.Stand ps_StandD_initD (sp_StandD_initD K c) 2 [] (pickL [] (.a 0 :: [.a 0, .a 1].map shIx)))
    (ME_Stand_put : MeC P w K mg base CX0 9 c.Stand "put" ps_Stand_put (sp_Stand_put K c)) : FnG P w K mg base CX0 10 f fd ps_stood (sp_stood K c) := by
  refine Fun.okG F sc_stood (fun vs H Q E h => ?_) (fun cdv A outer s H vs Q E hgd hr h => ?_)
  · exact h.1
  · refine ⟨_, (pss_cons (ps_set (i := 3) sc_stood.nd rfl (Or.inl rfl) (pe_mkP MC_Stand_2_ hgd (hr.mono (by decide)) T.g_Stand pass0At (pa_cons (pv 0) (pa_cons (pv 2) pa_nil))))
      (pss_cons (ps_for PassesOwn.never rfl (pi_listK K (pv 1)) (pg_name (i := 4) sc_stood.nd rfl (Or.inl rfl))
      (pss_one (ps_expr (pe_mG ME_Stand_put T.cls_Stand hgd (hr.mono (by decide)) pass0At (pv 3) (pa_cons (pv 4) pa_nil)))))
      (pss_one (ps_ret (pv 3))))), ?_⟩
    exact body_ok (W := (⟨K, c.cm, tkL, [(c.P_Stand_lowest, ((("Stand.lowest" : Str) ++ ".<locals>.") ++ "<lambda>"))], none⟩ : Wp)) (N := nm_stood) (k := 3) (δ := b_stood)
      ((ds_seq (ds_set (dn_mkSN (k := 3) (cls := "Stand") (F := d_StandD_initD) (dv := []) (ix := [.a 0, .a 1]) (fun _ _ _ => rfl) T.cm_Stand (fun _ _ => .nil) (dps_cons (dp_e (dn_v (i := 0))) (dps_cons (dp_e (dn_v (i := 2))) dps_nil)) dps_nil))
      (ds_seq (ds_for (g := (.nm 4)) (di_list (dn_v (i := 1)))
      (ds_drop (dn_smeN (k := 2) (cls := "Stand") (m := "put") (F := d_Stand_put) T.cm_Stand (dn_v (i := 3)) (dps_cons (dp_e (dn_v (i := 4))) dps_nil))))
      (ds_ret (dn_v (i := 3)))))) h
abbrev sp_stand_ads (K : PySem.W.Frag) (c : Ad) : Sp := spP (⟨K, c.cm, tkL, [(c.P_Stand_lowest, ((("Stand.lowest" : Str) ++ ".<locals>.") ++ "<lambda>"))], none⟩ : Wp) 3 d_stand_ads
theorem ok_stand_ads {P : Program} {w : World} {K : PySem.W.Frag} {mg : Str → Option Value} {base : Heap} {c : Ad} {f : Addr} {fd : FuncData} (T : Txt K mg c) (F : FunD K "stand_ads" "stand_ads" (defArgs s_stand_ads) (defBody s_stand_ads) (defScope s_stand_ads) [(.int 4)] [] f fd)
    {f_stood : Addr} {fd_stood : FuncData} (O_stood : OkG P w K mg base CX0 10 "stood" ps_stood (sp_stood K c) f_stood fd_stood)
    (B_stood : Binds K fd_stood ps_stood []) : FnG P w K mg base CX0 11 f fd ps_stand_ads (sp_stand_ads K c) := by
  refine FunD.okG (CX := CX0) F sc_stand_ads (fun vs H Q E h => ?_) (fun cdv A outer s H vs Q E hgd hr h => ?_)
  · exact h.1
  · refine ⟨_, PSs.nox ((pss_cons (ps_set (i := 3) sc_stand_ads.nd rfl (Or.inl rfl) (pe_c (dvs := []) O_stood ⟨[], .nil, B_stood⟩ hgd (hr.mono (by decide)) pass0At (pa_cons (pv 0) (pa_cons (pv 1) (pa_cons (pv 2) pa_nil)))))
      (pss_one (ps_ret (pe_tup (pa_cons (pe_callTy (call_listK K) (by rfl) T.b_list (by decide +kernel) (pa_cons (pe_fldK K (pv 3)) pa_nil)) (pa_cons (pe_callTy (call_listK K) (by rfl) T.b_list (by decide +kernel) (pa_cons (pe_fldK K (pv 3)) pa_nil)) pa_nil))))))), ?_⟩
    exact body_ok (W := (⟨K, c.cm, tkL, [(c.P_Stand_lowest, ((("Stand.lowest" : Str) ++ ".<locals>.") ++ "<lambda>"))], none⟩ : Wp)) (N := nm_stand_ads) (k := 3) (δ := b_stand_ads)
      ((ds_seq (ds_set (dn_callN (k := 3) (F := d_stood) (dv := []) (fun _ _ => .nil) (dps_cons (dp_e (dn_v (i := 0))) (dps_cons (dp_e (dn_v (i := 1))) (dps_cons (dp_e (dn_v (i := 2))) dps_nil)))))
      (ds_ret (dn_tup (da_cons (dn_sto (fun _ _ _ => rfl) (df_slst (da_cons (dn_sfld (cls := "Stand") (by dsimp only; rw [T.cm_Stand]; exact T.cls_Stand) (by dsimp only; rw [T.cm_Stand]; exact T.no_Stand_spots) (dn_v (i := 3))) da_nil))) (da_cons (dn_sto (fun _ _ _ => rfl) (df_slst (da_cons (dn_sfld (cls := "Stand") (by dsimp only; rw [T.cm_Stand]; exact T.cls_Stand) (by dsimp only; rw [T.cm_Stand]; exact T.no_Stand_unstood) (dn_v (i := 3))) da_nil))) da_nil)))))) h
end Nk22
set_option Elab.async false
set_option linter.all false
set_option maxRecDepth 100000
set_option maxHeartbeats 4000000
namespace Nk22
open PySem L2 Np
abbrev sp__law_feed (K : PySem.W.Frag) (c : Ad) : Sp := spTape (⟨K, c.cm, tkL, [(c.P_Stand_lowest, ((("Stand.lowest" : Str) ++ ".<locals>.") ++ "<lambda>"))], none⟩ : Wp)
theorem ok__law_feed {P : Program} {w : World} {K : PySem.W.Frag} {mg : Str → Option Value} {base : Heap} {c : Ad} {f : Addr} {fd : FuncData} (T : Txt K mg c) (F : Fun K "_law_feed" "_law_feed" s__law_feed f fd)
     : FnG P w K mg base CX0 1 f fd ps__law_feed (sp__law_feed K c) := by
  refine Fun.okG F sc__law_feed (fun vs H Q E h => ?_) (fun cdv A outer s H vs Q E hgd hr h => ?_)
  · obtain ⟨a, ns, rfl, hS, k⟩ := h
    rfl
  · obtain ⟨a, ns, rfl, hS, k⟩ := h
    refine ⟨_, (pss_one (ps_ret (pe_lst (pa_cons (pe_callTy (call_listK K) (by rfl) T.b_list (by decide +kernel) (pa_cons (pe_slice (sl_listK K) (pv 0) po_none (po_some pe_int)) pa_nil)) (pa_cons pe_int (pa_cons pe_int pa_nil)))))), ?_⟩
    refine ⟨_, rfl, _, rfl, a, _, rfl, hS, fun p1 n1 => ?_⟩
    rw [cells0_eq]
    refine ⟨p1, _, rfl, .inl (SqL.of upd_same), fun p2 n2 => ?_⟩
    refine ⟨(by show 3 ≤ sizeLine; decide), fun p3 n3 => ?_⟩
    have n2' : H p2 = none := (same_new n1).free n2
    refine k p2 p3 _ (((same_new n1).trans (same_new n2)).trans (same_new n3)) n2' (((same_new n1).trans (same_new n2)).free n3) (fun z => ?_) ?_ upd_same
    · rw [z, upd_same] at n3
      cases n3
    · rw [upd_ne (fun z => by rw [z, upd_same] at n3; cases n3)]
      exact upd_same
abbrev sp__law_draw (K : PySem.W.Frag) (c : Ad) : Sp := spP (⟨K, c.cm, tkL, [(c.P_Stand_lowest, ((("Stand.lowest" : Str) ++ ".<locals>.") ++ "<lambda>"))], none⟩ : Wp) 2 d__law_draw
theorem ok__law_draw {P : Program} {w : World} {K : PySem.W.Frag} {mg : Str → Option Value} {base : Heap} {c : Ad} {f : Addr} {fd : FuncData} (T : Txt K mg c) (F : Fun K "_law_draw" "_law_draw" s__law_draw f fd)
     : FnG P w K mg base CX0 1 f fd ps__law_draw (sp__law_draw K c) := by
  refine Fun.okG F sc__law_draw (fun vs H Q E h => ?_) (fun cdv A outer s H vs Q E hgd hr h => ?_)
  · exact h.1
  · refine ⟨_, (pss_cons (ps_if (pt_cmpR op_gt (pe_ix (ix_listK K) (pv 0) pe_int (fun _ _ => rfl)) pe_int (nomark _))
      (pss_cons (ps_set (i := 2) sc__law_draw.nd rfl (Or.inl rfl) (pe_op op_mod (pe_ix (ix_listK K) (pv 0) pe_int (fun _ _ => rfl)) (pv 1)))
      (pss_cons (ps_asg (pe_op op_fdivN (pe_ix (ix_listK K) (pv 0) pe_int (fun _ _ => rfl)) (pv 1)) (pg_sub (pv 0) pe_int set_list))
      (pss_one (ps_ret (pv 2)))))
      pss_nil)
      (pss_cons (ps_set (i := 3) sc__law_draw.nd rfl (Or.inl rfl) (pe_ix (ix_listK K) (pv 0) pe_int (fun _ _ => rfl)))
      (pss_cons (ps_asg (pe_op op_add (pv 3) pe_int) (pg_sub (pv 0) pe_int set_list))
      (pss_cons (ps_set (i := 4) sc__law_draw.nd rfl (Or.inl rfl) (pv 3))
      (pss_cons (ps_if (pt_cmpR op_gt (pe_callB (call_lenK K) (by rfl) T.b_len (by decide +kernel) (pa_cons (pe_ix (ix_listK K) (pv 0) pe_int (fun _ _ => rfl)) pa_nil)) pe_int (nomark _))
      (pss_one (ps_set (i := 4) sc__law_draw.nd rfl (Or.inl rfl) (pe_ix (ix_listK K) (pe_ix (ix_listK K) (pv 0) pe_int (fun _ _ => rfl)) (pe_op op_mod (pv 3) (pe_callB (call_lenK K) (by rfl) T.b_len (by decide +kernel) (pa_cons (pe_ix (ix_listK K) (pv 0) pe_int (fun _ _ => rfl)) pa_nil))) (fun _ _ => rfl))))
      pss_nil)
      (pss_cons (ps_if (PW.pt (pw_and (pt_cmpR op_ge (pv 4) (pe_op op_pow pe_int pe_int) (nomark _)) (pw_and1 (pt_cmpR op_lt (pv 3) (pe_callB (call_lenK K) (by rfl) T.b_len (by decide +kernel) (pa_cons (pe_ix (ix_listK K) (pv 0) pe_int (fun _ _ => rfl)) pa_nil)) (nomark _)))))
      (pss_cons (ps_asg (pe_op op_fdivN (pv 4) (pv 1)) (pg_sub (pv 0) pe_int set_list))
      (pss_one (ps_ret (pe_op op_mod (pv 4) (pv 1)))))
      pss_nil)
      (pss_cons (ps_set (i := 5) sc__law_draw.nd rfl (Or.inl rfl) (pe_op op_mod (pe_op op_mul (pe_op op_add (pe_op op_add (pe_op op_mod (pv 4) pe_int) (pe_op op_mul (pe_op op_mul pe_int (pv 3)) (pv 3))) pe_int) pe_int) pe_int))
      (pss_cons (ps_set (i := 5) sc__law_draw.nd rfl (Or.inl rfl) (pe_op op_mod (pe_op op_add (pe_op op_mul (pv 5) (pv 5)) (pe_op op_mul pe_int (pv 3))) pe_int))
      (pss_one (ps_ret (pe_op op_mod (pe_op op_fdiv (pe_op op_mod (pe_op op_mul (pv 5) (pe_op op_add (pe_op op_mod (pv 5) pe_int) pe_int)) pe_int) pe_int) (pv 1)))))))))))), ?_⟩
    exact body_ok (W := (⟨K, c.cm, tkL, [(c.P_Stand_lowest, ((("Stand.lowest" : Str) ++ ".<locals>.") ++ "<lambda>"))], none⟩ : Wp)) (N := nm__law_draw) (k := 2) (δ := b__law_draw)
      ((ds_seq (ds_if (dt_test (dn_op od_gt (dn_tp (i := 0) (k := 2) rfl) dn_int))
      (ds_seq (ds_set (dn_op od_mod (dn_tp (i := 0) (k := 2) rfl) (dn_v (i := 1))))
      (ds_seq (ds_tpPut (i := 0) (k := 2) rfl (dn_op od_fdivN (dn_tp (i := 0) (k := 2) rfl) (dn_v (i := 1))))
      (ds_ret (dn_v (i := 2)))))
      ds_next)
      (ds_seq (ds_set (dn_tp (i := 0) (k := 1) rfl))
      (ds_seq (ds_tpPut (i := 0) (k := 1) rfl (dn_op od_add (dn_v (i := 3)) dn_int))
      (ds_seq (ds_set (dn_v (i := 3)))
      (ds_seq (ds_if (dt_test (dn_op od_gt (dn_cb cd_lenL (da_cons (dn_tp (i := 0) (k := 0) rfl) da_nil)) dn_int))
      (ds_set (dn_op od_ixL (dn_tp (i := 0) (k := 0) rfl) (dn_op od_mod (dn_v (i := 3)) (dn_cb cd_lenL (da_cons (dn_tp (i := 0) (k := 0) rfl) da_nil)))))
      ds_next)
      (ds_seq (ds_if (dt_and (dt_test (dn_op od_ge (dn_v (i := 4)) (dn_op od_pow dn_int dn_int))) (dt_test (dn_op od_lt (dn_v (i := 3)) (dn_cb cd_lenL (da_cons (dn_tp (i := 0) (k := 0) rfl) da_nil)))))
      (ds_seq (ds_tpPut (i := 0) (k := 2) rfl (dn_op od_fdivN (dn_v (i := 4)) (dn_v (i := 1))))
      (ds_ret (dn_op od_mod (dn_v (i := 4)) (dn_v (i := 1)))))
      ds_next)
      (ds_seq (ds_set (dn_op od_mod (dn_op od_mul (dn_op od_add (dn_op od_add (dn_op od_mod (dn_v (i := 4)) dn_int) (dn_op od_mul (dn_op od_mul dn_int (dn_v (i := 3))) (dn_v (i := 3)))) dn_int) dn_int) dn_int))
      (ds_seq (ds_set (dn_op od_mod (dn_op od_add (dn_op od_mul (dn_v (i := 5)) (dn_v (i := 5))) (dn_op od_mul dn_int (dn_v (i := 3)))) dn_int))
      (ds_ret (dn_op od_mod (dn_op od_fdiv (dn_op od_mod (dn_op od_mul (dn_v (i := 5)) (dn_op od_add (dn_op od_mod (dn_v (i := 5)) dn_int) dn_int)) dn_int) dn_int) (dn_v (i := 1))))))))))))) h
abbrev sp__law_names (K : PySem.W.Frag) (c : Ad) : Sp := spP (⟨K, c.cm, tkL, [(c.P_Stand_lowest, ((("Stand.lowest" : Str) ++ ".<locals>.") ++ "<lambda>"))], none⟩ : Wp) 2 d__law_names
theorem ok__law_names {P : Program} {w : World} {K : PySem.W.Frag} {mg : Str → Option Value} {base : Heap} {c : Ad} {f : Addr} {fd : FuncData} (T : Txt K mg c) (F : Fun K "_law_names" "_law_names" s__law_names f fd)
    {f__law_draw : Addr} {fd__law_draw : FuncData} (O__law_draw : OkG P w K mg base CX0 1 "_law_draw" ps__law_draw (sp__law_draw K c) f__law_draw fd__law_draw)
    (B__law_draw : Binds K fd__law_draw ps__law_draw []) : FnG P w K mg base CX0 2 f fd ps__law_names (sp__law_names K c) := by
  refine Fun.okG F sc__law_names (fun vs H Q E h => ?_) (fun cdv A outer s H vs Q E hgd hr h => ?_)
  · exact h.1
  · refine ⟨_, (pss_cons (ps_set (i := 2) sc__law_names.nd rfl (Or.inr rfl) (pe_lst (pa_cons pe_str (pa_cons pe_str (pa_cons pe_str (pa_cons pe_str (pa_cons pe_str (pa_cons pe_str (pa_cons pe_str (pa_cons pe_str (pa_cons pe_str (pa_cons pe_str (pa_cons pe_str (pa_cons pe_str (pa_cons pe_str (pa_cons pe_str (pa_cons pe_str pa_nil)))))))))))))))))
      (pss_cons (ps_set (i := 2) sc__law_names.nd rfl (Or.inr rfl) (pe_op op_cat (pv 2) (pe_lst (pa_cons pe_str (pa_cons pe_str (pa_cons pe_str (pa_cons pe_str (pa_cons pe_str (pa_cons pe_str (pa_cons pe_str (pa_cons pe_str (pa_cons pe_str (pa_cons pe_str (pa_cons pe_str (pa_cons pe_str (pa_cons pe_str (pa_cons pe_str (pa_cons pe_str pa_nil))))))))))))))))))
      (pss_cons (ps_set (i := 2) sc__law_names.nd rfl (Or.inr rfl) (pe_op op_cat (pv 2) (pe_lst (pa_cons pe_str (pa_cons pe_str (pa_cons pe_str (pa_cons pe_str (pa_cons pe_str (pa_cons pe_str (pa_cons pe_str (pa_cons pe_str (pa_cons pe_str (pa_cons pe_str (pa_cons pe_str pa_nil))))))))))))))
      (pss_cons (ps_set (i := 3) sc__law_names.nd rfl (Or.inr rfl) (pe_c (dvs := []) O__law_draw ⟨[], .nil, B__law_draw⟩ hgd (hr.mono (by decide)) pass0At (pa_cons (pv 0) (pa_cons pe_int pa_nil))))
      (pss_cons (ps_set (i := 4) sc__law_names.nd rfl (Or.inr rfl) (pe_ix (ix_listK K) (pe_lst (pa_cons pe_int (pa_cons pe_int (pa_cons pe_int (pa_cons pe_int (pa_cons pe_int (pa_cons pe_int pa_nil))))))) (pe_c (dvs := []) O__law_draw ⟨[], .nil, B__law_draw⟩ hgd (hr.mono (by decide)) pass0At (pa_cons (pv 0) (pa_cons pe_int pa_nil))) (fun _ _ => rfl)))
      (pss_one (ps_ret (pe_lc (own := [("_law_k", 5)]) (g := gName 5) (tt := tYes) (by rfl) sc__law_names.nd (pi_range1 (by rfl) T.b_range (pa_cons (pv 1) pa_nil)) (blkOk_by (own := [("_law_k", 5)]) (N := nm__law_names) (sc := defScope s__law_names) (by decide +kernel)) (fun _ _ _ _ _ => (pg_name (i := 5) sc__law_names.nd rfl (Or.inl rfl))) (fun _ _ _ _ _ => pts_nil) (fun _ _ _ _ _ => (pe_ix (ix_listK K) (pv 2) (pe_op op_mod (pe_op op_add (pv 3) (pe_op op_mul (pv 4) (pv 5))) pe_int) (fun _ _ => rfl))))))))))), ?_⟩
    exact body_ok (W := (⟨K, c.cm, tkL, [(c.P_Stand_lowest, ((("Stand.lowest" : Str) ++ ".<locals>.") ++ "<lambda>"))], none⟩ : Wp)) (N := nm__law_names) (k := 2) (δ := b__law_names)
      ((ds_seq (ds_set (dn_lst (da_cons dn_str (da_cons dn_str (da_cons dn_str (da_cons dn_str (da_cons dn_str (da_cons dn_str (da_cons dn_str (da_cons dn_str (da_cons dn_str (da_cons dn_str (da_cons dn_str (da_cons dn_str (da_cons dn_str (da_cons dn_str (da_cons dn_str da_nil)))))))))))))))))
      (ds_seq (ds_set (dn_op od_cat (dn_v (i := 2)) (dn_lst (da_cons dn_str (da_cons dn_str (da_cons dn_str (da_cons dn_str (da_cons dn_str (da_cons dn_str (da_cons dn_str (da_cons dn_str (da_cons dn_str (da_cons dn_str (da_cons dn_str (da_cons dn_str (da_cons dn_str (da_cons dn_str (da_cons dn_str da_nil))))))))))))))))))
      (ds_seq (ds_set (dn_op od_cat (dn_v (i := 2)) (dn_lst (da_cons dn_str (da_cons dn_str (da_cons dn_str (da_cons dn_str (da_cons dn_str (da_cons dn_str (da_cons dn_str (da_cons dn_str (da_cons dn_str (da_cons dn_str (da_cons dn_str da_nil))))))))))))))
      (ds_seq (ds_set (dn_callN (k := 2) (F := d__law_draw) (dv := []) (fun _ _ => .nil) (dps_cons (dp_t (i := 0)) (dps_cons (dp_e dn_int) dps_nil))))
      (ds_seq (ds_set (dn_op od_ixL (dn_lst (da_cons dn_int (da_cons dn_int (da_cons dn_int (da_cons dn_int (da_cons dn_int (da_cons dn_int da_nil))))))) (dn_callN (k := 2) (F := d__law_draw) (dv := []) (fun _ _ => .nil) (dps_cons (dp_t (i := 0)) (dps_cons (dp_e dn_int) dps_nil)))))
      (ds_ret (dn_lc (t := (.nm 5)) (vs := [5]) rfl (di_range1 (da_cons (dn_v (i := 1)) da_nil)) dt_yes (dn_op od_ixL (dn_v (i := 2)) (dn_op od_mod (dn_op od_add (dn_v (i := 3)) (dn_op od_mul (dn_v (i := 4)) (dn_v (i := 5)))) dn_int)))))))))) h
abbrev sp__law_word (K : PySem.W.Frag) (c : Ad) : Sp := spP (⟨K, c.cm, tkL, [(c.P_Stand_lowest, ((("Stand.lowest" : Str) ++ ".<locals>.") ++ "<lambda>"))], none⟩ : Wp) 2 d__law_word
theorem ok__law_word {P : Program} {w : World} {K : PySem.W.Frag} {mg : Str → Option Value} {base : Heap} {c : Ad} {f : Addr} {fd : FuncData} (T : Txt K mg c) (F : Fun K "_law_word" "_law_word" s__law_word f fd)
    {f__law_draw : Addr} {fd__law_draw : FuncData} (O__law_draw : OkG P w K mg base CX0 1 "_law_draw" ps__law_draw (sp__law_draw K c) f__law_draw fd__law_draw)
    (B__law_draw : Binds K fd__law_draw ps__law_draw []) : FnG P w K mg base CX0 2 f fd ps__law_word (sp__law_word K c) := by
  refine Fun.okG F sc__law_word (fun vs H Q E h => ?_) (fun cdv A outer s H vs Q E hgd hr h => ?_)
  · exact h.1
  · refine ⟨_, (pss_cons (ps_set (i := 2) sc__law_word.nd rfl (Or.inr rfl) pe_str)
      (pss_cons (ps_set (i := 3) sc__law_word.nd rfl (Or.inl rfl) (pe_op op_add pe_int (pe_c (dvs := []) O__law_draw ⟨[], .nil, B__law_draw⟩ hgd (hr.mono (by decide)) pass0At (pa_cons (pv 0) (pa_cons (pe_ix (ix_listK K) (pe_lst (pa_cons pe_int (pa_cons pe_int (pa_cons (pv 1) pa_nil)))) (pe_c (dvs := []) O__law_draw ⟨[], .nil, B__law_draw⟩ hgd (hr.mono (by decide)) pass0At (pa_cons (pv 0) (pa_cons pe_int pa_nil))) (fun _ _ => rfl)) pa_nil)))))
      (pss_cons (ps_asg (pe_tup (pa_cons (pe_c (dvs := []) O__law_draw ⟨[], .nil, B__law_draw⟩ hgd (hr.mono (by decide)) pass0At (pa_cons (pv 0) (pa_cons pe_int pa_nil))) (pa_cons (pe_ix (ix_listK K) (pe_lst (pa_cons pe_int (pa_cons pe_int (pa_cons pe_int (pa_cons pe_int (pa_cons pe_int pa_nil)))))) (pe_c (dvs := []) O__law_draw ⟨[], .nil, B__law_draw⟩ hgd (hr.mono (by decide)) pass0At (pa_cons (pv 0) (pa_cons pe_int pa_nil))) (fun _ _ => rfl)) pa_nil))) (pg_tupK (n := 2) K (by rfl) (pgs_cons (pg_name (i := 4) sc__law_word.nd rfl (Or.inr rfl)) (pgs_cons (pg_name (i := 5) sc__law_word.nd rfl (Or.inr rfl)) pgs_nil))))
      (pss_one (ps_ret (pe_joinK K pe_str (pe_lc (own := [("_law_k", 6)]) (g := gName 6) (tt := tYes) (by rfl) sc__law_word.nd (pi_range1 (by rfl) T.b_range (pa_cons (pv 3) pa_nil)) (blkOk_by (own := [("_law_k", 6)]) (N := nm__law_word) (sc := defScope s__law_word) (by decide +kernel)) (fun _ _ _ _ _ => (pg_name (i := 6) sc__law_word.nd rfl (Or.inl rfl))) (fun _ _ _ _ _ => pts_nil) (fun _ _ _ _ _ => (pe_ix ix_str (pv 2) (pe_op op_mod (pe_op op_add (pv 4) (pe_op op_mul (pv 5) (pv 6))) pe_int) (fun _ _ => rfl)))))))))), ?_⟩
    exact body_ok (W := (⟨K, c.cm, tkL, [(c.P_Stand_lowest, ((("Stand.lowest" : Str) ++ ".<locals>.") ++ "<lambda>"))], none⟩ : Wp)) (N := nm__law_word) (k := 2) (δ := b__law_word)
      ((ds_seq (ds_set dn_str)
      (ds_seq (ds_set (dn_op od_add dn_int (dn_callN (k := 2) (F := d__law_draw) (dv := []) (fun _ _ => .nil) (dps_cons (dp_t (i := 0)) (dps_cons (dp_e (dn_op od_ixL (dn_lst (da_cons dn_int (da_cons dn_int (da_cons (dn_v (i := 1)) da_nil)))) (dn_callN (k := 2) (F := d__law_draw) (dv := []) (fun _ _ => .nil) (dps_cons (dp_t (i := 0)) (dps_cons (dp_e dn_int) dps_nil))))) dps_nil)))))
      (ds_seq (ds_asgT (g := (.tp [(.nm 4), (.nm 5)])) (dn_tup (da_cons (dn_callN (k := 2) (F := d__law_draw) (dv := []) (fun _ _ => .nil) (dps_cons (dp_t (i := 0)) (dps_cons (dp_e dn_int) dps_nil))) (da_cons (dn_op od_ixL (dn_lst (da_cons dn_int (da_cons dn_int (da_cons dn_int (da_cons dn_int (da_cons dn_int da_nil)))))) (dn_callN (k := 2) (F := d__law_draw) (dv := []) (fun _ _ => .nil) (dps_cons (dp_t (i := 0)) (dps_cons (dp_e dn_int) dps_nil)))) da_nil))))
      (ds_ret (dn_m1 md_join dn_str (dn_lc (t := (.nm 6)) (vs := [6]) rfl (di_range1 (da_cons (dn_v (i := 3)) da_nil)) dt_yes (dn_op od_ixS (dn_v (i := 2)) (dn_op od_mod (dn_op od_add (dn_v (i := 4)) (dn_op od_mul (dn_v (i := 5)) (dn_v (i := 6)))) dn_int))))))))) h
abbrev sp__law_text (K : PySem.W.Frag) (c : Ad) : Sp := spP (⟨K, c.cm, tkL, [(c.P_Stand_lowest, ((("Stand.lowest" : Str) ++ ".<locals>.") ++ "<lambda>"))], none⟩ : Wp) 3 d__law_text
theorem okt__law_text {P : Program} {w : World} {K : PySem.W.Frag} {mg : Str → Option Value} {base : Heap} {c : Ad} {f : Addr} {fd : FuncData} (T : Txt K mg c) (F : Fun K "_law_text" "_law_text" s__law_text f fd)
    {f__law_draw : Addr} {fd__law_draw : FuncData} (O__law_draw : OkG P w K mg base CX0 1 "_law_draw" ps__law_draw (sp__law_draw K c) f__law_draw fd__law_draw)
    (B__law_draw : Binds K fd__law_draw ps__law_draw [])
    {f__law_word : Addr} {fd__law_word : FuncData} (O__law_word : OkG P w K mg base CX0 2 "_law_word" ps__law_word (sp__law_word K c) f__law_word fd__law_word)
    (B__law_word : Binds K fd__law_word ps__law_word []) : FnT P w K mg base CX0 3 f fd ps__law_text (sp__law_text K c) := by
  refine Fun.okT F sc__law_text (fun vs H Q E h => ?_) (fun cdv A outer s H vs Q E hgd hr h => ?_)
  · exact h.1
  · refine ⟨_, (pssP_str (i := 3) sc__law_text.nd rfl (Or.inl rfl)
      (PSs.nox (pss_cons (ps_for PassesOwn.never rfl (pi_range1 (by rfl) T.b_range (pa_cons (pv 1) pa_nil)) (pg_name (i := 4) sc__law_text.nd rfl (Or.inl rfl))
      (pss_cons (ps_set (i := 5) sc__law_text.nd rfl (Or.inl rfl) (pe_ix (ix_listK K) (pe_lst (pa_cons pe_str (pa_cons pe_str (pa_cons pe_str (pa_cons pe_str (pa_cons pe_str (pa_cons pe_str (pa_cons pe_str (pa_cons pe_str pa_nil))))))))) (pe_c (dvs := []) O__law_draw ⟨[], .nil, B__law_draw⟩ hgd (hr.mono (by decide)) pass0At (pa_cons (pv 0) (pa_cons (pe_ix (ix_listK K) (pe_lst (pa_cons pe_int (pa_cons pe_int pa_nil))) (pe_callTy call_int1 (by rfl) T.b_int (by decide +kernel) (pa_cons (pv 2) pa_nil)) (fun _ _ => rfl)) pa_nil))) (fun _ _ => rfl)))
      (pss_one (ps_set (i := 3) sc__law_text.nd rfl (Or.inl rfl) (pe_op op_add_str (pe_op op_add_str (pv 3) (pe_ix (ix_listK K) (pe_lst (pa_cons (pv 5) (pa_cons pe_str pa_nil))) (pe_callTy call_int1 (by rfl) T.b_int (by decide +kernel) (pa_cons (pe_cmpR op_eq (pv 3) pe_str (nomark _)) pa_nil)) (fun _ _ => rfl))) (pe_c (dvs := []) O__law_word ⟨[], .nil, B__law_word⟩ hgd (hr.mono (by decide)) pass0At (pa_cons (pv 0) (pa_cons pe_int pa_nil))))))))
      (pss_one (ps_ret (pv 3)))))), ?_⟩
    exact body_ok (W := (⟨K, c.cm, tkL, [(c.P_Stand_lowest, ((("Stand.lowest" : Str) ++ ".<locals>.") ++ "<lambda>"))], none⟩ : Wp)) (N := nm__law_text) (k := 3) (δ := b__law_text)
      ((ds_seq (ds_set dn_str)
      (ds_seq (ds_for (g := (.nm 4)) (di_range1 (da_cons (dn_v (i := 1)) da_nil))
      (ds_seq (ds_set (dn_op od_ixL (dn_lst (da_cons dn_str (da_cons dn_str (da_cons dn_str (da_cons dn_str (da_cons dn_str (da_cons dn_str (da_cons dn_str (da_cons dn_str da_nil))))))))) (dn_callN (k := 2) (F := d__law_draw) (dv := []) (fun _ _ => .nil) (dps_cons (dp_t (i := 0)) (dps_cons (dp_e (dn_op od_ixL (dn_lst (da_cons dn_int (da_cons dn_int da_nil))) (dn_cb cd_int1 (da_cons (dn_v (i := 2)) da_nil)))) dps_nil)))))
      (ds_set (dn_op od_add_str (dn_op od_add_str (dn_v (i := 3)) (dn_op od_ixL (dn_lst (da_cons (dn_v (i := 5)) (da_cons dn_str da_nil))) (dn_cb cd_int1 (da_cons (dn_op od_eq (dn_v (i := 3)) dn_str) da_nil)))) (dn_callN (k := 2) (F := d__law_word) (dv := []) (fun _ _ => .nil) (dps_cons (dp_t (i := 0)) (dps_cons (dp_e dn_int) dps_nil)))))))
      (ds_ret (dn_v (i := 3)))))) h
theorem ok__law_text {P : Program} {w : World} {K : PySem.W.Frag} {mg : Str → Option Value} {base : Heap} {c : Ad} {f : Addr} {fd : FuncData} (T : Txt K mg c) (F : Fun K "_law_text" "_law_text" s__law_text f fd)
    {f__law_draw : Addr} {fd__law_draw : FuncData} (O__law_draw : OkG P w K mg base CX0 1 "_law_draw" ps__law_draw (sp__law_draw K c) f__law_draw fd__law_draw)
    (B__law_draw : Binds K fd__law_draw ps__law_draw [])
    {f__law_word : Addr} {fd__law_word : FuncData} (O__law_word : OkG P w K mg base CX0 2 "_law_word" ps__law_word (sp__law_word K c) f__law_word fd__law_word)
    (B__law_word : Binds K fd__law_word ps__law_word []) : FnG P w K mg base CX0 3 f fd ps__law_text (sp__law_text K c) := (okt__law_text T F O__law_draw B__law_draw O__law_word B__law_word).fn
end Nk22
set_option Elab.async false
set_option linter.all false
set_option maxRecDepth 100000
set_option maxHeartbeats 4000000
namespace Nk22
open PySem L2 Np
abbrev sp__law_form (K : PySem.W.Frag) (c : Ad) : Sp := spP (⟨K, c.cm, tkL, [(c.P_Stand_lowest, ((("Stand.lowest" : Str) ++ ".<locals>.") ++ "<lambda>"))], none⟩ : Wp) 1 d__law_form
theorem ok__law_form {P : Program} {w : World} {K : PySem.W.Frag} {mg : Str → Option Value} {base : Heap} {c : Ad} {f : Addr} {fd : FuncData} (T : Txt K mg c) (F : Fun K "_law_form" "_law_form" s__law_form f fd)
    {f__law_draw : Addr} {fd__law_draw : FuncData} (O__law_draw : OkG P w K mg base CX0 1 "_law_draw" ps__law_draw (sp__law_draw K c) f__law_draw fd__law_draw)
    (B__law_draw : Binds K fd__law_draw ps__law_draw []) : FnG P w K mg base CX0 2 f fd ps__law_form (sp__law_form K c) := by
  refine Fun.okG F sc__law_form (fun vs H Q E h => ?_) (fun cdv A outer s H vs Q E hgd hr h => ?_)
  · exact h.1
  · refine ⟨_, (pss_cons (ps_if (pt_cmpR op_eq (pe_c (dvs := []) O__law_draw ⟨[], .nil, B__law_draw⟩ hgd (hr.mono (by decide)) pass0At (pa_cons (pv 0) (pa_cons pe_int pa_nil))) pe_int (nomark _))
      (pss_one (ps_ret (pe_tup (pa_cons pe_int (pa_cons pe_int (pa_cons pe_int pa_nil))))))
      pss_nil)
      (pss_cons (ps_par (i := 1) (j := 2) (by rfl) sc__law_form.nd rfl rfl (by decide) rfl rfl (pa_cons (pe_op op_add pe_int (pe_c (dvs := []) O__law_draw ⟨[], .nil, B__law_draw⟩ hgd (hr.mono (by decide)) pass0At (pa_cons (pv 0) (pa_cons (pe_ix (ix_listK K) (pe_lst (pa_cons pe_int (pa_cons pe_int pa_nil))) (pe_c (dvs := []) O__law_draw ⟨[], .nil, B__law_draw⟩ hgd (hr.mono (by decide)) pass0At (pa_cons (pv 0) (pa_cons pe_int pa_nil))) (fun _ _ => rfl)) pa_nil)))) (pa_cons (pe_op op_add pe_int (pe_c (dvs := []) O__law_draw ⟨[], .nil, B__law_draw⟩ hgd (hr.mono (by decide)) pass0At (pa_cons (pv 0) (pa_cons (pe_ix (ix_listK K) (pe_lst (pa_cons pe_int (pa_cons pe_int pa_nil))) (pe_c (dvs := []) O__law_draw ⟨[], .nil, B__law_draw⟩ hgd (hr.mono (by decide)) pass0At (pa_cons (pv 0) (pa_cons pe_int pa_nil))) (fun _ _ => rfl)) pa_nil)))) pa_nil)) (by rfl))
      (pss_one (ps_ret (pe_tup (pa_cons (pv 1) (pa_cons (pe_op op_add pe_int (pe_c (dvs := []) O__law_draw ⟨[], .nil, B__law_draw⟩ hgd (hr.mono (by decide)) pass0At (pa_cons (pv 0) (pa_cons pe_int pa_nil)))) (pa_cons (pv 2) pa_nil)))))))), ?_⟩
    exact body_ok (W := (⟨K, c.cm, tkL, [(c.P_Stand_lowest, ((("Stand.lowest" : Str) ++ ".<locals>.") ++ "<lambda>"))], none⟩ : Wp)) (N := nm__law_form) (k := 1) (δ := b__law_form)
      ((ds_seq (ds_if (dt_test (dn_op od_eq (dn_callN (k := 2) (F := d__law_draw) (dv := []) (fun _ _ => .nil) (dps_cons (dp_t (i := 0)) (dps_cons (dp_e dn_int) dps_nil))) dn_int))
      (ds_ret (dn_tup (da_cons dn_int (da_cons dn_int (da_cons dn_int da_nil)))))
      ds_next)
      (ds_seq (ds_par (da_cons (dn_op od_add dn_int (dn_callN (k := 2) (F := d__law_draw) (dv := []) (fun _ _ => .nil) (dps_cons (dp_t (i := 0)) (dps_cons (dp_e (dn_op od_ixL (dn_lst (da_cons dn_int (da_cons dn_int da_nil))) (dn_callN (k := 2) (F := d__law_draw) (dv := []) (fun _ _ => .nil) (dps_cons (dp_t (i := 0)) (dps_cons (dp_e dn_int) dps_nil))))) dps_nil)))) (da_cons (dn_op od_add dn_int (dn_callN (k := 2) (F := d__law_draw) (dv := []) (fun _ _ => .nil) (dps_cons (dp_t (i := 0)) (dps_cons (dp_e (dn_op od_ixL (dn_lst (da_cons dn_int (da_cons dn_int da_nil))) (dn_callN (k := 2) (F := d__law_draw) (dv := []) (fun _ _ => .nil) (dps_cons (dp_t (i := 0)) (dps_cons (dp_e dn_int) dps_nil))))) dps_nil)))) da_nil)))
      (ds_ret (dn_tup (da_cons (dn_v (i := 1)) (da_cons (dn_op od_add dn_int (dn_callN (k := 2) (F := d__law_draw) (dv := []) (fun _ _ => .nil) (dps_cons (dp_t (i := 0)) (dps_cons (dp_e dn_int) dps_nil)))) (da_cons (dn_v (i := 2)) da_nil)))))))) h
abbrev sp__law_ad (K : PySem.W.Frag) (c : Ad) : Sp := spP (⟨K, c.cm, tkL, [(c.P_Stand_lowest, ((("Stand.lowest" : Str) ++ ".<locals>.") ++ "<lambda>"))], none⟩ : Wp) 3 d__law_ad
theorem ok__law_ad {P : Program} {w : World} {K : PySem.W.Frag} {mg : Str → Option Value} {base : Heap} {c : Ad} {f : Addr} {fd : FuncData} (T : Txt K mg c) (F : Fun K "_law_ad" "_law_ad" s__law_ad f fd)
    {f__law_draw : Addr} {fd__law_draw : FuncData} (O__law_draw : OkG P w K mg base CX0 1 "_law_draw" ps__law_draw (sp__law_draw K c) f__law_draw fd__law_draw)
    (B__law_draw : Binds K fd__law_draw ps__law_draw [])
    {f__law_text : Addr} {fd__law_text : FuncData} (O__law_text : OkG P w K mg base CX0 3 "_law_text" ps__law_text (sp__law_text K c) f__law_text fd__law_text)
    (B__law_text : Binds K fd__law_text ps__law_text [])
    (OT__law_text : OkT P w K mg base CX0 3 "_law_text" ps__law_text (sp__law_text K c) f__law_text fd__law_text) : FnG P w K mg base CX0 4 f fd ps__law_ad (sp__law_ad K c) := by
  refine Fun.okG F sc__law_ad (fun vs H Q E h => ?_) (fun cdv A outer s H vs Q E hgd hr h => ?_)
  · exact h.1
  · refine ⟨_, (pss_cons (ps_set (i := 3) sc__law_ad.nd rfl (Or.inl rfl) (pe_ix (ix_listK K) (pe_lst (pa_cons pe_int (pa_cons pe_int (pa_cons pe_int pa_nil)))) (pe_c (dvs := []) O__law_draw ⟨[], .nil, B__law_draw⟩ hgd (hr.mono (by decide)) pass0At (pa_cons (pv 0) (pa_cons pe_int pa_nil))) (fun _ _ => rfl)))
      (pss_cons (ps_set (i := 4) sc__law_ad.nd rfl (Or.inl rfl) (PEP.pe (pep_repl (pep_repl (pep_c (dvs := []) OT__law_text ⟨[], .nil, B__law_text⟩ hgd (hr.mono (by decide)) pass0At (pa_cons (pv 0) (pa_cons (pe_c (dvs := []) O__law_draw ⟨[], .nil, B__law_draw⟩ hgd (hr.mono (by decide)) pass0At (pa_cons (pv 0) (pa_cons (pv 3) pa_nil))) (pa_cons pe_bl pa_nil))))))))
      (pss_one (ps_ret (pe_tup (pa_cons (pv 2) (pa_cons (pe_op op_add pe_int (pe_c (dvs := []) O__law_draw ⟨[], .nil, B__law_draw⟩ hgd (hr.mono (by decide)) pass0At (pa_cons (pv 0) (pa_cons (pe_ix (ix_tupK K) (pv 1) pe_int (fun _ _ => rfl)) pa_nil)))) (pa_cons (pv 4) pa_nil)))))))), ?_⟩
    exact body_ok (W := (⟨K, c.cm, tkL, [(c.P_Stand_lowest, ((("Stand.lowest" : Str) ++ ".<locals>.") ++ "<lambda>"))], none⟩ : Wp)) (N := nm__law_ad) (k := 3) (δ := b__law_ad)
      ((ds_seq (ds_set (dn_op od_ixL (dn_lst (da_cons dn_int (da_cons dn_int (da_cons dn_int da_nil)))) (dn_callN (k := 2) (F := d__law_draw) (dv := []) (fun _ _ => .nil) (dps_cons (dp_t (i := 0)) (dps_cons (dp_e dn_int) dps_nil)))))
      (ds_seq (ds_set (dn_repl (dn_repl (dn_callN (k := 3) (F := d__law_text) (dv := []) (fun _ _ => .nil) (dps_cons (dp_t (i := 0)) (dps_cons (dp_e (dn_callN (k := 2) (F := d__law_draw) (dv := []) (fun _ _ => .nil) (dps_cons (dp_t (i := 0)) (dps_cons (dp_e (dn_v (i := 3))) dps_nil)))) (dps_cons (dp_e dn_bl) dps_nil)))))))
      (ds_ret (dn_tup (da_cons (dn_v (i := 2)) (da_cons (dn_op od_add dn_int (dn_callN (k := 2) (F := d__law_draw) (dv := []) (fun _ _ => .nil) (dps_cons (dp_t (i := 0)) (dps_cons (dp_e (dn_op od_ixT (dn_v (i := 1)) dn_int)) dps_nil)))) (da_cons (dn_v (i := 4)) da_nil)))))))) h
abbrev sp__law_ads (K : PySem.W.Frag) (c : Ad) : Sp := spP (⟨K, c.cm, tkL, [(c.P_Stand_lowest, ((("Stand.lowest" : Str) ++ ".<locals>.") ++ "<lambda>"))], none⟩ : Wp) 3 d__law_ads
theorem ok__law_ads {P : Program} {w : World} {K : PySem.W.Frag} {mg : Str → Option Value} {base : Heap} {c : Ad} {f : Addr} {fd : FuncData} (T : Txt K mg c) (F : Fun K "_law_ads" "_law_ads" s__law_ads f fd)
    {f__law_names : Addr} {fd__law_names : FuncData} (O__law_names : OkG P w K mg base CX0 2 "_law_names" ps__law_names (sp__law_names K c) f__law_names fd__law_names)
    (B__law_names : Binds K fd__law_names ps__law_names [])
    {f__law_draw : Addr} {fd__law_draw : FuncData} (O__law_draw : OkG P w K mg base CX0 1 "_law_draw" ps__law_draw (sp__law_draw K c) f__law_draw fd__law_draw)
    (B__law_draw : Binds K fd__law_draw ps__law_draw [])
    {f__law_ad : Addr} {fd__law_ad : FuncData} (O__law_ad : OkG P w K mg base CX0 4 "_law_ad" ps__law_ad (sp__law_ad K c) f__law_ad fd__law_ad)
    (B__law_ad : Binds K fd__law_ad ps__law_ad []) : FnG P w K mg base CX0 5 f fd ps__law_ads (sp__law_ads K c) := by
  refine Fun.okG F sc__law_ads (fun vs H Q E h => ?_) (fun cdv A outer s H vs Q E hgd hr h => ?_)
  · exact h.1
  · refine ⟨_, (pss_cons (ps_par (i := 3) (j := 4) (by rfl) sc__law_ads.nd rfl rfl (by decide) rfl rfl (pa_cons (pe_c (dvs := []) O__law_names ⟨[], .nil, B__law_names⟩ hgd (hr.mono (by decide)) pass0At (pa_cons (pv 0) (pa_cons pe_int pa_nil))) (pa_cons (pe_lst pa_nil) pa_nil)) (by rfl))
      (pss_cons (ps_for PassesOwn.never rfl (pi_range1 (by rfl) T.b_range (pa_cons (pe_c (dvs := []) O__law_draw ⟨[], .nil, B__law_draw⟩ hgd (hr.mono (by decide)) pass0At (pa_cons (pv 0) (pa_cons (pe_op op_add (pv 2) pe_int) pa_nil))) pa_nil)) (pg_name (i := 5) sc__law_ads.nd rfl (Or.inl rfl))
      (pss_one (ps_expr (pe_bmK K PySem.F.plainAttrs_list PySem.F.slot_list_append PySem.F.type_list_append mt_append (pv 4) (pa_cons (pe_c (dvs := []) O__law_ad ⟨[], .nil, B__law_ad⟩ hgd (hr.mono (by decide)) pass0At (pa_cons (pv 0) (pa_cons (pv 1) (pa_cons (pe_ix (ix_listK K) (pv 3) (pe_op op_sub (pv 5) (pe_callTy call_int1 (by rfl) T.b_int (by decide +kernel) (pa_cons (pe_and (pe_cmpR op_gt (pv 5) pe_int (nomark _)) (pe_one (pe_cmpR op_eq (pe_c (dvs := []) O__law_draw ⟨[], .nil, B__law_draw⟩ hgd (hr.mono (by decide)) pass0At (pa_cons (pv 0) (pa_cons pe_int pa_nil))) pe_int (nomark _)))) pa_nil))) (fun _ _ => rfl)) pa_nil)))) pa_nil)))))
      (pss_one (ps_ret (pv 4))))), ?_⟩
    exact body_ok (W := (⟨K, c.cm, tkL, [(c.P_Stand_lowest, ((("Stand.lowest" : Str) ++ ".<locals>.") ++ "<lambda>"))], none⟩ : Wp)) (N := nm__law_ads) (k := 3) (δ := b__law_ads)
      ((ds_seq (ds_parFO (dn_callN (k := 2) (F := d__law_names) (dv := []) (fun _ _ => .nil) (dps_cons (dp_t (i := 0)) (dps_cons (dp_e dn_int) dps_nil))) (df_lst da_nil))
      (ds_seq (ds_for (g := (.nm 5)) (di_range1 (da_cons (dn_callN (k := 2) (F := d__law_draw) (dv := []) (fun _ _ => .nil) (dps_cons (dp_t (i := 0)) (dps_cons (dp_e (dn_op od_add (dn_v (i := 2)) dn_int)) dps_nil))) da_nil))
      (ds_app (i := 4) (dn_callN (k := 3) (F := d__law_ad) (dv := []) (fun _ _ => .nil) (dps_cons (dp_t (i := 0)) (dps_cons (dp_e (dn_v (i := 1))) (dps_cons (dp_e (dn_op od_ixL (dn_v (i := 3)) (dn_op od_sub (dn_v (i := 5)) (dn_cb cd_int1 (da_cons (dn_and (dn_op od_gt (dn_v (i := 5)) dn_int) (dn_op od_eq (dn_callN (k := 2) (F := d__law_draw) (dv := []) (fun _ _ => .nil) (dps_cons (dp_t (i := 0)) (dps_cons (dp_e dn_int) dps_nil))) dn_int)) da_nil))))) dps_nil))))))
      (ds_frz (i := 4) (ds_ret (dn_v (i := 4))))))) h
abbrev sp__law_ad_rows (K : PySem.W.Frag) (c : Ad) : Sp := spP (⟨K, c.cm, tkL, [(c.P_Stand_lowest, ((("Stand.lowest" : Str) ++ ".<locals>.") ++ "<lambda>"))], none⟩ : Wp) 2 d__law_ad_rows
theorem ok__law_ad_rows {P : Program} {w : World} {K : PySem.W.Frag} {mg : Str → Option Value} {base : Heap} {c : Ad} {f : Addr} {fd : FuncData} (T : Txt K mg c) (F : Fun K "_law_ad_rows" "_law_ad_rows" s__law_ad_rows f fd)
    {f_set_rows : Addr} {fd_set_rows : FuncData} (O_set_rows : OkG P w K mg base CX0 3 "set_rows" ps_set_rows (sp_set_rows K c) f_set_rows fd_set_rows)
    (BD_set_rows_3 : ∃ ds, Vals (([(.bl true), (.int 0)] : List V).drop 1) ds ∧ Binds K fd_set_rows ps_set_rows ds) : FnG P w K mg base CX0 4 f fd ps__law_ad_rows (sp__law_ad_rows K c) := by
  refine Fun.okG F sc__law_ad_rows (fun vs H Q E h => ?_) (fun cdv A outer s H vs Q E hgd hr h => ?_)
  · exact h.1
  · refine ⟨_, (pss_cons (ps_set (i := 2) sc__law_ad_rows.nd rfl (Or.inr rfl) (pe_op op_add (pe_op op_mul (pe_ix (ix_tupK K) (pv 1) pe_int (fun _ _ => rfl)) (pe_ix (ix_tupK K) (pv 0) pe_int (fun _ _ => rfl))) (pe_op op_mul pe_int (pe_op op_sub (pe_ix (ix_tupK K) (pv 1) pe_int (fun _ _ => rfl)) pe_int))))
      (pss_cons (ps_setLc (i := 3) (own := [("_law_row", 4)]) (g := gName 4) (tt := tYes) (by rfl) sc__law_ad_rows.nd rfl rfl (sw_true rfl rfl rfl (by decide +kernel)) (pi_listK K (pe_c O_set_rows BD_set_rows_3 hgd (hr.mono (by decide)) pass0At (pa_cons (pe_ix (ix_tupK K) (pv 1) pe_int (fun _ _ => rfl)) (pa_cons (pe_op op_sub (pv 2) pe_int) (pa_cons pe_bl pa_nil))))) (blkOk_by (own := [("_law_row", 4)]) (N := nm__law_ad_rows) (sc := defScope s__law_ad_rows) (by decide +kernel)) (fun _ _ _ _ _ => (pg_name (i := 4) sc__law_ad_rows.nd rfl (Or.inl rfl))) (fun _ _ _ _ _ => pts_nil) (fun _ _ _ _ _ => (pe_op op_add_str (pe_op op_add_str pe_str (pe_bmK K PySem.F.plainAttrs_str PySem.F.slot_str_ljust PySem.F.type_str_ljust mt_ljust (pv 4) (pa_cons (pe_op op_sub (pv 2) pe_int) pa_nil))) pe_str)))
      (pss_one (ps_ret (pe_op op_cat (pe_op op_cat (pe_lst (pa_cons (pe_op op_add_str (pe_op op_add_str pe_str (pe_op op_mulS pe_str (pe_op op_sub (pv 2) pe_int))) pe_str) pa_nil)) (pv 3)) (pe_lst (pa_cons (pe_op op_add_str (pe_op op_add_str pe_str (pe_op op_mulS pe_str (pe_op op_sub (pv 2) pe_int))) pe_str) pa_nil))))))), ?_⟩
    exact body_ok (W := (⟨K, c.cm, tkL, [(c.P_Stand_lowest, ((("Stand.lowest" : Str) ++ ".<locals>.") ++ "<lambda>"))], none⟩ : Wp)) (N := nm__law_ad_rows) (k := 2) (δ := b__law_ad_rows)
      ((ds_seq (ds_set (dn_op od_add (dn_op od_mul (dn_op od_ixT (dn_v (i := 1)) dn_int) (dn_op od_ixT (dn_v (i := 0)) dn_int)) (dn_op od_mul dn_int (dn_op od_sub (dn_op od_ixT (dn_v (i := 1)) dn_int) dn_int))))
      (ds_seq (ds_set (dn_lc (t := (.nm 4)) (vs := [4]) rfl (di_list (dn_callN (k := 4) (F := d_set_rows) (dv := [.fr (.int 0)]) (fun _ _ => .cons (show ArgR _ _ _ _ (.fr (.int 0)) from Rp.int _) (.nil)) (dps_cons (dp_e (dn_op od_ixT (dn_v (i := 1)) dn_int)) (dps_cons (dp_e (dn_op od_sub (dn_v (i := 2)) dn_int)) (dps_cons (dp_e dn_bl) dps_nil))))) dt_yes (dn_op od_add_str (dn_op od_add_str dn_str (dn_bmS md_ljust (dn_v (i := 4)) (da_cons (dn_op od_sub (dn_v (i := 2)) dn_int) da_nil))) dn_str)))
      (ds_ret (dn_op od_cat (dn_op od_cat (dn_lst (da_cons (dn_op od_add_str (dn_op od_add_str dn_str (dn_op od_mulS dn_str (dn_op od_sub (dn_v (i := 2)) dn_int))) dn_str) da_nil)) (dn_v (i := 3))) (dn_lst (da_cons (dn_op od_add_str (dn_op od_add_str dn_str (dn_op od_mulS dn_str (dn_op od_sub (dn_v (i := 2)) dn_int))) dn_str) da_nil))))))) h
end Nk22
set_option Elab.async false
set_option linter.all false
set_option maxRecDepth 100000
set_option maxHeartbeats 4000000
namespace Nk22
open PySem L2 Np
abbrev sp__law_stood (K : PySem.W.Frag) (c : Ad) : Sp := spP (⟨K, c.cm, tkL, [(c.P_Stand_lowest, ((("Stand.lowest" : Str) ++ ".<locals>.") ++ "<lambda>"))], none⟩ : Wp) 3 d__law_stood
theorem ok__law_stood {P : Program} {w : World} {K : PySem.W.Frag} {mg : Str → Option Value} {base : Heap} {c : Ad} {f : Addr} {fd : FuncData} (T : Txt K mg c) (F : Fun K "_law_stood" "_law_stood" s__law_stood f fd)
    {f__law_ad_rows : Addr} {fd__law_ad_rows : FuncData} (O__law_ad_rows : OkG P w K mg base CX0 4 "_law_ad_rows" ps__law_ad_rows (sp__law_ad_rows K c) f__law_ad_rows fd__law_ad_rows)
    (B__law_ad_rows : Binds K fd__law_ad_rows ps__law_ad_rows []) : FnG P w K mg base CX0 5 f fd ps__law_stood (sp__law_stood K c) := by
  refine Fun.okG F sc__law_stood (fun vs H Q E h => ?_) (fun cdv A outer s H vs Q E hgd hr h => ?_)
  · exact h.1
  · refine ⟨_, (pss_cons (ps_asg (pe_tup (pa_cons (pe_op op_rep (pe_lst (pa_cons pe_int pa_nil)) (pe_ix (ix_tupK K) (pv 0) pe_int (fun _ _ => rfl))) (pa_cons (pe_lst pa_nil) (pa_cons (pe_lst pa_nil) (pa_cons (pe_lst pa_nil) pa_nil))))) (pg_tupK (n := 4) K (by rfl) (pgs_cons (pg_name (i := 3) sc__law_stood.nd rfl (Or.inr rfl)) (pgs_cons (pg_name (i := 4) sc__law_stood.nd rfl (Or.inl rfl)) (pgs_cons (pg_name (i := 5) sc__law_stood.nd rfl (Or.inl rfl)) (pgs_cons (pg_name (i := 6) sc__law_stood.nd rfl (Or.inl rfl)) pgs_nil))))))
      (pss_cons (ps_for PassesOwn.never rfl (pi_listK K (pv 1)) (pg_name (i := 7) sc__law_stood.nd rfl (Or.inr rfl))
      (pss_cons (ps_set (i := 8) sc__law_stood.nd rfl (Or.inl rfl) (pe_callB (call_lenK K) (by rfl) T.b_len (by decide +kernel) (pa_cons (pe_c (dvs := []) O__law_ad_rows ⟨[], .nil, B__law_ad_rows⟩ hgd (hr.mono (by decide)) pass0At (pa_cons (pv 0) (pa_cons (pv 7) pa_nil))) pa_nil)))
      (pss_cons (ps_setLc (i := 9) (own := [("_law_k", 10)]) (g := gName 10) (tt := tYes) (by rfl) sc__law_stood.nd rfl rfl (sw_true rfl rfl rfl (by decide +kernel)) (pi_range1 (by rfl) T.b_range (pa_cons (pe_op op_add (pe_op op_sub (pe_ix (ix_tupK K) (pv 0) pe_int (fun _ _ => rfl)) (pe_ix (ix_tupK K) (pv 7) pe_int (fun _ _ => rfl))) pe_int) pa_nil)) (blkOk_by (own := [("_law_k", 10)]) (N := nm__law_stood) (sc := defScope s__law_stood) (by decide +kernel)) (fun _ _ _ _ _ => (pg_name (i := 10) sc__law_stood.nd rfl (Or.inl rfl))) (fun _ _ _ _ _ => pts_nil) (fun _ _ _ _ _ => (pe_tup (pa_cons (pe_callB (cr_maxK K rfl) (by rfl) T.b_max (by decide +kernel) (pa_cons (pe_slice (sl_listK K) (pv 3) (po_some (pv 10)) (po_some (pe_op op_add (pv 10) (pe_ix (ix_tupK K) (pv 7) pe_int (fun _ _ => rfl))))) pa_nil)) (pa_cons (pe_un un_neg (pv 10)) pa_nil)))))
      (pss_cons (ps_asg (pe_callB (cr_minLD K rfl hr) (by rfl) T.b_min (by decide +kernel) (pa_cons (pv 9) pa_nil)) (pg_tupK (n := 2) K (by rfl) (pgs_cons (pg_name (i := 11) sc__law_stood.nd rfl (Or.inl rfl)) (pgs_cons (pg_name (i := 12) sc__law_stood.nd rfl (Or.inl rfl)) pgs_nil))))
      (pss_one (ps_if (pt_cmpR op_gt (pe_op op_add (pe_op op_add (pv 11) (pv 8)) (pv 2)) (pe_ix (ix_tupK K) (pv 0) pe_int (fun _ _ => rfl)) (nomark _))
      (pss_one (ps_expr (pe_bmK K PySem.F.plainAttrs_list PySem.F.slot_list_append PySem.F.type_list_append mt_append (pv 5) (pa_cons (pe_ix (ix_tupK K) (pv 7) pe_int (fun _ _ => rfl)) pa_nil))))
      (pss_cons (ps_expr (pe_bmK K PySem.F.plainAttrs_list PySem.F.slot_list_append PySem.F.type_list_append mt_append (pv 4) (pa_cons (pe_tup (pa_cons (pe_ix (ix_tupK K) (pv 7) pe_int (fun _ _ => rfl)) (pa_cons (pe_un un_neg (pv 12)) (pa_cons (pe_op op_sub (pe_op op_sub (pe_ix (ix_tupK K) (pv 0) pe_int (fun _ _ => rfl)) (pv 11)) (pv 8)) (pa_cons (pv 8) pa_nil))))) pa_nil)))
      (pss_cons (ps_expr (pe_bmK K PySem.F.plainAttrs_list PySem.F.slot_list_append PySem.F.type_list_append mt_append (pv 6) (pa_cons (pv 7) pa_nil)))
      (pss_one (ps_for PassesOwn.never rfl (pi_range2 (by rfl) T.b_range (pa_cons (pe_un un_neg (pv 12)) (pa_cons (pe_op op_sub (pe_ix (ix_tupK K) (pv 7) pe_int (fun _ _ => rfl)) (pv 12)) pa_nil))) (pg_name (i := 10) sc__law_stood.nd rfl (Or.inl rfl))
      (pss_one (ps_asg (pe_op op_add (pv 11) (pv 8)) (pg_sub (pv 3) (pv 10) set_list)))))))))))))
      (pss_one (ps_ret (pe_tup (pa_cons (pv 4) (pa_cons (pv 5) (pa_cons (pe_lc (own := [("_law_top", 11)]) (g := gName 11) (tt := tYes) (by rfl) sc__law_stood.nd (pi_listK K (pv 3)) (blkOk_by (own := [("_law_top", 11)]) (N := nm__law_stood) (sc := defScope s__law_stood) (by decide +kernel)) (fun _ _ _ _ _ => (pg_name (i := 11) sc__law_stood.nd rfl (Or.inl rfl))) (fun _ _ _ _ _ => pts_nil) (fun _ _ _ _ _ => (pe_op op_sub (pe_ix (ix_tupK K) (pv 0) pe_int (fun _ _ => rfl)) (pv 11)))) (pa_cons (pv 6) pa_nil))))))))), ?_⟩
    exact body_ok (W := (⟨K, c.cm, tkL, [(c.P_Stand_lowest, ((("Stand.lowest" : Str) ++ ".<locals>.") ++ "<lambda>"))], none⟩ : Wp)) (N := nm__law_stood) (k := 3) (δ := b__law_stood)
      ((ds_seq (ds_tup4O (df_op of_rep (dn_lst (da_cons dn_int da_nil)) (dn_op od_ixT (dn_v (i := 0)) dn_int)) (df_lst da_nil) (df_lst da_nil) (df_lst da_nil))
      (ds_seq (ds_for (g := (.nm 7)) (di_list (dn_v (i := 1)))
      (ds_seq (ds_set (dn_cb cd_lenL (da_cons (dn_callN (k := 2) (F := d__law_ad_rows) (dv := []) (fun _ _ => .nil) (dps_cons (dp_e (dn_v (i := 0))) (dps_cons (dp_e (dn_v (i := 7))) dps_nil))) da_nil)))
      (ds_seq (ds_set (dn_lc (t := (.nm 10)) (vs := [10]) rfl (di_range1 (da_cons (dn_op od_add (dn_op od_sub (dn_op od_ixT (dn_v (i := 0)) dn_int) (dn_op od_ixT (dn_v (i := 7)) dn_int)) dn_int) da_nil)) dt_yes (dn_tup (da_cons (dn_bor (i := 3) (dn_cb cd_maxL (da_cons (dn_slice sd_list (dn_v (i := 3)) (do_some (dn_v (i := 10))) (do_some (dn_op od_add (dn_v (i := 10)) (dn_op od_ixT (dn_v (i := 7)) dn_int)))) da_nil))) (da_cons (dn_un ud_neg (dn_v (i := 10))) da_nil)))))
      (ds_seq (ds_asgT (g := (.tp [(.nm 11), (.nm 12)])) (dn_cb cd_minLD (da_cons (dn_v (i := 9)) da_nil)))
      (ds_if (dt_test (dn_op od_gt (dn_op od_add (dn_op od_add (dn_v (i := 11)) (dn_v (i := 8))) (dn_v (i := 2))) (dn_op od_ixT (dn_v (i := 0)) dn_int)))
      (ds_app (i := 5) (dn_op od_ixT (dn_v (i := 7)) dn_int))
      (ds_seq (ds_app (i := 4) (dn_tup (da_cons (dn_op od_ixT (dn_v (i := 7)) dn_int) (da_cons (dn_un ud_neg (dn_v (i := 12))) (da_cons (dn_op od_sub (dn_op od_sub (dn_op od_ixT (dn_v (i := 0)) dn_int) (dn_v (i := 11))) (dn_v (i := 8))) (da_cons (dn_v (i := 8)) da_nil))))))
      (ds_seq (ds_app (i := 6) (dn_v (i := 7)))
      (ds_for (g := (.nm 10)) (di_range2 (da_cons (dn_un ud_neg (dn_v (i := 12))) (da_cons (dn_op od_sub (dn_op od_ixT (dn_v (i := 7)) dn_int) (dn_v (i := 12))) da_nil)))
      (ds_putL (i := 3) (dn_v (i := 10)) (dn_op od_add (dn_v (i := 11)) (dn_v (i := 8))))))))))))
      (ds_frz (i := 3) (ds_frz (i := 4) (ds_frz (i := 5) (ds_frz (i := 6) (ds_ret (dn_tup (da_cons (dn_v (i := 4)) (da_cons (dn_v (i := 5)) (da_cons (dn_lc (t := (.nm 11)) (vs := [11]) rfl (di_list (dn_v (i := 3))) dt_yes (dn_op od_sub (dn_op od_ixT (dn_v (i := 0)) dn_int) (dn_v (i := 11)))) (da_cons (dn_v (i := 6)) da_nil))))))))))))) h
end Nk22
set_option Elab.async false
set_option linter.all false
set_option maxRecDepth 100000
set_option maxHeartbeats 4000000
namespace Nk22
open PySem L2 Np
abbrev sp_law (K : PySem.W.Frag) (c : Ad) : Sp := spLT K [(c.P_Stand_lowest, ((("Stand.lowest" : Str) ++ ".<locals>.") ++ "<lambda>"))]
theorem ok_law {P : Program} {w : World} {K : PySem.W.Frag} {mg : Str → Option Value} {base : Heap} {c : Ad} {f : Addr} {fd : FuncData} (T : Txt K mg c) (F : Fun K "law" "law" s_law f fd)
    {f__law_feed : Addr} {fd__law_feed : FuncData} (O__law_feed : OkG P w K mg base CX0 1 "_law_feed" ps__law_feed (sp__law_feed K c) f__law_feed fd__law_feed)
    (B__law_feed : Binds K fd__law_feed ps__law_feed [])
    {f__law_form : Addr} {fd__law_form : FuncData} (O__law_form : OkG P w K mg base CX0 2 "_law_form" ps__law_form (sp__law_form K c) f__law_form fd__law_form)
    (B__law_form : Binds K fd__law_form ps__law_form [])
    {f__law_ads : Addr} {fd__law_ads : FuncData} (O__law_ads : OkG P w K mg base CX0 5 "_law_ads" ps__law_ads (sp__law_ads K c) f__law_ads fd__law_ads)
    (B__law_ads : Binds K fd__law_ads ps__law_ads [])
    {f__law_draw : Addr} {fd__law_draw : FuncData} (O__law_draw : OkG P w K mg base CX0 1 "_law_draw" ps__law_draw (sp__law_draw K c) f__law_draw fd__law_draw)
    (B__law_draw : Binds K fd__law_draw ps__law_draw [])
    {f_stand_ads : Addr} {fd_stand_ads : FuncData} (O_stand_ads : OkG P w K mg base CX0 11 "stand_ads" ps_stand_ads (sp_stand_ads K c) f_stand_ads fd_stand_ads)
    (B_stand_ads : Binds K fd_stand_ads ps_stand_ads [])
    (BD_stand_ads_2 : ∃ ds, Vals (([(.int 4)] : List V).drop 0) ds ∧ Binds K fd_stand_ads ps_stand_ads ds)
    (KB_stand_ads_0_keep_ads_form : KB K fd_stand_ads ps_stand_ads 0 ["keep", "ads", "form"] (pickL [(.int 4)] [.z 2, .z 1, .z 0]))
    {f__law_stood : Addr} {fd__law_stood : FuncData} (O__law_stood : OkG P w K mg base CX0 5 "_law_stood" ps__law_stood (sp__law_stood K c) f__law_stood fd__law_stood)
    (B__law_stood : Binds K fd__law_stood ps__law_stood []) : FnG P w K mg base CX0 12 f fd ps_law (sp_law K c) := by
  refine Fun.okG F sc_law (fun vs H Q E h => ?_) (fun cdv A outer s H vs Q E hgd hr h => ?_)
  · obtain ⟨⟨a, ns, rfl, _⟩, _⟩ := h
    rfl
  · refine ⟨_, (pss_cons (ps_set (i := 1) sc_law.nd rfl (Or.inl rfl) (pe_c (dvs := []) O__law_feed ⟨[], .nil, B__law_feed⟩ hgd (hr.mono (by decide)) pass0At (pa_cons (pv 0) pa_nil)))
      (pss_cons (ps_set (i := 2) sc_law.nd rfl (Or.inl rfl) (pe_c (dvs := []) O__law_form ⟨[], .nil, B__law_form⟩ hgd (hr.mono (by decide)) pass0At (pa_cons (pv 1) pa_nil)))
      (pss_cons (ps_set (i := 3) sc_law.nd rfl (Or.inl rfl) (pe_c (dvs := []) O__law_ads ⟨[], .nil, B__law_ads⟩ hgd (hr.mono (by decide)) pass0At (pa_cons (pv 1) (pa_cons (pv 2) (pa_cons pe_int pa_nil)))))
      (pss_cons (ps_for PassesOwn.never rfl (pi_listK K (pe_lst (pa_cons (pv 3) (pa_cons (pe_revLK K (pv 3)) (pa_cons (pe_op op_cat (pe_slice (sl_listK K) (pv 3) po_none (po_some pe_int)) (pe_slice (sl_listK K) (pv 3) po_none (po_some pe_int))) pa_nil))))) (pg_name (i := 4) sc_law.nd rfl (Or.inl rfl))
      (pss_cons (ps_set (i := 5) sc_law.nd rfl (Or.inl rfl) (pe_c (dvs := []) O__law_draw ⟨[], .nil, B__law_draw⟩ hgd (hr.mono (by decide)) pass0At (pa_cons (pv 1) (pa_cons pe_int pa_nil))))
      (pss_one (ps_for PassesOwn.never rfl (pi_listK K (pe_lst (pa_cons (pv 5) (pa_cons (pv 5) (pa_cons pe_int pa_nil))))) (pg_name (i := 6) sc_law.nd rfl (Or.inl rfl))
      (pss_cons (ps_set (i := 7) sc_law.nd rfl (Or.inr rfl) (pe_slice (sl_tupAK K) (pe_c (dvs := []) O__law_stood ⟨[], .nil, B__law_stood⟩ hgd (hr.mono (by decide)) pass0At (pa_cons (pv 2) (pa_cons (pv 4) (pa_cons (pv 6) pa_nil)))) po_none (po_some pe_int)))
      (pss_cons (ps_set (i := 8) sc_law.nd rfl (Or.inl rfl) (pe_callTy (call_listK K) (by rfl) T.b_list (by decide +kernel) (pa_cons (pv 4) pa_nil)))
      (pss_cons (ps_set (i := 9) sc_law.nd rfl (Or.inl rfl) (pe_lst (pa_cons (pe_c (dvs := []) O_stand_ads ⟨[], .nil, B_stand_ads⟩ hgd (hr.mono (by decide)) pass0At (pa_cons (pv 2) (pa_cons (pv 8) (pa_cons (pv 6) pa_nil)))) (pa_cons (pe_ck0 O_stand_ads KB_stand_ads_0_keep_ads_form hgd (hr.mono (by decide)) pass0At (pk_cons (pv 6) (pk_cons (pv 8) (pk_cons (pv 2) pk_nil)))) pa_nil))))
      (pss_cons (ps_if (pt_cmpR op_eq (pv 6) pe_int (nomark _))
      (pss_one (ps_expr (pe_bmK K PySem.F.plainAttrs_list PySem.F.slot_list_append PySem.F.type_list_append mt_append (pv 9) (pa_cons (pe_c O_stand_ads BD_stand_ads_2 hgd (hr.mono (by decide)) pass0At (pa_cons (pv 2) (pa_cons (pv 8) pa_nil))) pa_nil))))
      pss_nil)
      (pss_cons (ps_if (PW.pt (pw_or (pt_cmpR (op_neDK K hr.units) (pe_lc (own := [("_law_one", 10)]) (g := gName 10) (by rfl) sc_law.nd (pi_listK K (pv 9)) (blkOk_by (own := [("_law_one", 10)]) (N := nm_law) (sc := defScope s_law) (by decide +kernel)) (fun _ _ _ _ _ => (pg_name (i := 10) sc_law.nd rfl (Or.inl rfl))) (fun _ _ _ _ _ => (pts_one (pt_cmpR op_ne (pe_callB (call_reprD K hgd (un130 hr)) (by rfl) T.b_repr (by decide +kernel) (pa_cons (pv 10) pa_nil)) (pe_callB (call_reprD K hgd (un130 hr)) (by rfl) T.b_repr (by decide +kernel) (pa_cons (pv 7) pa_nil)) (nomark _)))) (fun _ _ _ _ _ => (pv 10))) (pe_lst pa_nil) (nomark _)) (pw_or1 (pt_cmpR (op_neDK K hr.units) (pv 8) (pv 4) (nomark _)))))
      (pss_one (ps_ret pe_bl))
      pss_nil)
      (pss_cons (ps_for PassesOwn.never rfl (pi_listK K (pv 9)) (pg_name (i := 10) sc_law.nd rfl (Or.inl rfl))
      (pss_cons (ps_expr (pe_bmK K PySem.F.plainAttrs_list PySem.F.slot_list_append PySem.F.type_list_append mt_append (pe_ix (ix_tupK K) (pv 10) pe_int (fun _ _ => rfl)) (pa_cons pe_non pa_nil)))
      (pss_one (ps_expr (pe_bm0K K PySem.F.plainAttrs_list PySem.F.slot_list_clear PySem.F.type_list_clear mt_clear (pe_ix (ix_tupK K) (pv 10) pe_int (fun _ _ => rfl)))))))
      (pss_one (ps_if (pt_cmpR (op_neDK K hr.units) (pe_c (dvs := []) O_stand_ads ⟨[], .nil, B_stand_ads⟩ hgd (hr.mono (by decide)) pass0At (pa_cons (pv 2) (pa_cons (pv 8) (pa_cons (pv 6) pa_nil)))) (pv 7) (nomark _))
      (pss_one (ps_ret pe_bl))
      pss_nil))))))))))))
      (pss_one (ps_ret (pe_cmpR (op_eqDK K hr.units) (pe_c O_stand_ads BD_stand_ads_2 hgd (hr.mono (by decide)) pass0At (pa_cons (pv 2) (pa_cons (pe_lst pa_nil) pa_nil))) (pe_tup (pa_cons (pe_lst pa_nil) (pa_cons (pe_lst pa_nil) pa_nil))) (nomark _)))))))), ?_⟩
    exact law_ok (W := (⟨K, c.cm, tkL, [(c.P_Stand_lowest, ((("Stand.lowest" : Str) ++ ".<locals>.") ++ "<lambda>"))], none⟩ : Wp)) (N := nm_law) (i := 1) (δ := b_law_1) (fun _ _ => rfl) law_true
      ((ds_seq (ds_set (dn_callN (k := 1) (F := d__law_form) (dv := []) (fun _ _ => .nil) (dps_cons (dp_t (i := 1)) dps_nil)))
      (ds_seq (ds_set (dn_callN (k := 3) (F := d__law_ads) (dv := []) (fun _ _ => .nil) (dps_cons (dp_t (i := 1)) (dps_cons (dp_e (dn_v (i := 2))) (dps_cons (dp_e dn_int) dps_nil)))))
      (ds_seq (ds_for (g := (.nm 4)) (di_list (dn_lst (da_cons (dn_v (i := 3)) (da_cons (dn_revL (dn_v (i := 3))) (da_cons (dn_op od_cat (dn_slice sd_list (dn_v (i := 3)) do_none (do_some dn_int)) (dn_slice sd_list (dn_v (i := 3)) do_none (do_some dn_int))) da_nil)))))
      (ds_seq (ds_set (dn_callN (k := 2) (F := d__law_draw) (dv := []) (fun _ _ => .nil) (dps_cons (dp_t (i := 1)) (dps_cons (dp_e dn_int) dps_nil))))
      (ds_for (g := (.nm 6)) (di_list (dn_lst (da_cons (dn_v (i := 5)) (da_cons (dn_v (i := 5)) (da_cons dn_int da_nil)))))
      (ds_seq (ds_set (dn_slice sd_tupA (dn_callN (k := 3) (F := d__law_stood) (dv := []) (fun _ _ => .nil) (dps_cons (dp_e (dn_v (i := 2))) (dps_cons (dp_e (dn_v (i := 4))) (dps_cons (dp_e (dn_v (i := 6))) dps_nil)))) do_none (do_some dn_int)))
      (ds_seq (ds_set (dn_cb cd_list (da_cons (dn_v (i := 4)) da_nil)))
      (ds_seq (ds_setO (df_lst (da_cons (dn_callN (k := 3) (F := d_stand_ads) (dv := []) (fun _ _ => .nil) (dps_cons (dp_e (dn_v (i := 2))) (dps_cons (dp_e (dn_v (i := 8))) (dps_cons (dp_e (dn_v (i := 6))) dps_nil)))) (da_cons (dn_kwN (k := 3) (F := d_stand_ads) (ix := [.z 2, .z 1, .z 0]) (dv := [.fr (.int 4)]) (fun _ _ => .cons (show ArgR _ _ _ _ (.fr (.int 4)) from Rp.int _) (.nil)) dps_nil (dps_cons (dp_e (dn_v (i := 6))) (dps_cons (dp_e (dn_v (i := 8))) (dps_cons (dp_e (dn_v (i := 2))) dps_nil)))) da_nil))))
      (ds_seq (ds_if (dt_test (dn_op od_eq (dn_v (i := 6)) dn_int))
      (ds_app (i := 9) (dn_callN (k := 3) (F := d_stand_ads) (dv := [.fr (.int 4)]) (fun _ _ => .cons (show ArgR _ _ _ _ (.fr (.int 4)) from Rp.int _) (.nil)) (dps_cons (dp_e (dn_v (i := 2))) (dps_cons (dp_e (dn_v (i := 8))) dps_nil))))
      ds_next)
      (ds_seq (ds_frz (i := 9) (ds_if (dt_or (dt_test (dn_op od_neD (dn_lc (t := (.nm 10)) (vs := [10]) rfl (di_list (dn_v (i := 9))) (dt_test (dn_op od_ne (dn_cbV cd_repr (da_cons (dn_v (i := 10)) da_nil)) (dn_cb cd_repr (da_cons (dn_v (i := 7)) da_nil)))) (dn_v (i := 10))) (dn_lst da_nil))) (dt_test (dn_op od_neD (dn_v (i := 8)) (dn_v (i := 4)))))
      (ds_ret dn_bl)
      ds_next))
      (ds_seq (ds_frz (i := 9) (ds_for (g := (.nm 10)) (di_list (dn_v (i := 9)))
      (ds_seq (ds_stApp (fun _ _ _ => rfl) (dn_op od_ixT (dn_v (i := 10)) dn_int) dn_non)
      (ds_stClr (fun _ _ _ => rfl) (dn_op od_ixT (dn_v (i := 10)) dn_int)))))
      (ds_if (dt_test (dn_opV od_neD (dn_callN (k := 3) (F := d_stand_ads) (dv := []) (fun _ _ => .nil) (dps_cons (dp_e (dn_v (i := 2))) (dps_cons (dp_e (dn_v (i := 8))) (dps_cons (dp_e (dn_v (i := 6))) dps_nil)))) (dn_v (i := 7))))
      (ds_ret dn_bl)
      ds_next))))))))))
      (ds_ret (dn_opV od_eqD (dn_callN (k := 3) (F := d_stand_ads) (dv := [.fr (.int 4)]) (fun _ _ => .cons (show ArgR _ _ _ _ (.fr (.int 4)) from Rp.int _) (.nil)) (dps_cons (dp_e (dn_v (i := 2))) (dps_cons (dp_e (dn_lst da_nil)) dps_nil))) (dn_tup (da_cons (dn_lst da_nil) (da_cons (dn_lst da_nil) da_nil))))))))) (fun p hp => LamX.TabS.nil (h.2 p hp)) h.1
end Nk22
set_option Elab.async false
set_option linter.all false
set_option maxRecDepth 100000
set_option maxHeartbeats 4000000
namespace Nk22
open PySem L2 Np
theorem all_mk {l : PySem.W.OpenLaw} {w : World} {K : PySem.W.Frag} {h : Heap} {mg : Str → Option Value} {fa : Addr} {f__wall f_framed f_parted f_words_of f_filled f_spread f_paragraph_rows f_set_rows f_wide_of f_ad_block f_stood f_stand_ads f__law_feed f__law_draw f__law_names f__law_word f__law_text f__law_form f__law_ad f__law_ads f__law_ad_rows f__law_stood f_law f_UnlikeD_initD f_BlockD_initD f_BlockD_lenD f_Block_lines f_StandD_initD f_Stand_top_over f_Stand_lowest f_Stand_put : Addr} {C_NightError C_Unlike C_Block C_Stand : Addr}
    (X : K.In h) (G : h.Ns mainGlobals mg) (hfa : mg "law" = some (.ref fa))
    {od__wall an__wall od_framed an_framed od_parted an_parted od_words_of an_words_of od_filled an_filled od_spread an_spread od_paragraph_rows an_paragraph_rows od_set_rows an_set_rows od_wide_of an_wide_of od_ad_block an_ad_block od_stood an_stood od_stand_ads an_stand_ads od__law_feed an__law_feed od__law_draw an__law_draw od__law_names an__law_names od__law_word an__law_word od__law_text an__law_text od__law_form an__law_form od__law_ad an__law_ad od__law_ads an__law_ads od__law_ad_rows an__law_ad_rows od__law_stood an__law_stood od_law an_law od_UnlikeD_initD an_UnlikeD_initD od_BlockD_initD an_BlockD_initD od_BlockD_lenD an_BlockD_lenD od_Block_lines an_Block_lines od_StandD_initD an_StandD_initD od_Stand_top_over an_Stand_top_over od_Stand_lowest an_Stand_lowest od_Stand_put an_Stand_put : Option Addr} {sl__wall sl_framed sl_parted sl_words_of sl_filled sl_spread sl_paragraph_rows sl_set_rows sl_wide_of sl_ad_block sl_stood sl_stand_ads sl__law_feed sl__law_draw sl__law_names sl__law_word sl__law_text sl__law_form sl__law_ad sl__law_ads sl__law_ad_rows sl__law_stood sl_law sl_UnlikeD_initD sl_BlockD_initD sl_BlockD_lenD sl_Block_lines sl_StandD_initD sl_Stand_top_over sl_Stand_lowest sl_Stand_put : Array (Option Value)}
    {oc__wall kV__wall dc__wall pm__wall cd__wall ct__wall oc_framed kV_framed dc_framed pm_framed cd_framed ct_framed oc_parted kV_parted dc_parted pm_parted cd_parted ct_parted oc_words_of kV_words_of dc_words_of pm_words_of cd_words_of ct_words_of oc_filled kV_filled dc_filled pm_filled cd_filled ct_filled oc_spread kV_spread dc_spread pm_spread cd_spread ct_spread oc_paragraph_rows kV_paragraph_rows dc_paragraph_rows pm_paragraph_rows cd_paragraph_rows ct_paragraph_rows oc_set_rows dv_set_rows kV_set_rows dc_set_rows pm_set_rows cd_set_rows ct_set_rows oc_wide_of kV_wide_of dc_wide_of pm_wide_of cd_wide_of ct_wide_of oc_ad_block kV_ad_block dc_ad_block pm_ad_block cd_ad_block ct_ad_block oc_stood kV_stood dc_stood pm_stood cd_stood ct_stood oc_stand_ads dv_stand_ads kV_stand_ads dc_stand_ads pm_stand_ads cd_stand_ads ct_stand_ads oc__law_feed kV__law_feed dc__law_feed pm__law_feed cd__law_feed ct__law_feed oc__law_draw kV__law_draw dc__law_draw pm__law_draw cd__law_draw ct__law_draw oc__law_names kV__law_names dc__law_names pm__law_names cd__law_names ct__law_names oc__law_word kV__law_word dc__law_word pm__law_word cd__law_word ct__law_word oc__law_text kV__law_text dc__law_text pm__law_text cd__law_text ct__law_text oc__law_form kV__law_form dc__law_form pm__law_form cd__law_form ct__law_form oc__law_ad kV__law_ad dc__law_ad pm__law_ad cd__law_ad ct__law_ad oc__law_ads kV__law_ads dc__law_ads pm__law_ads cd__law_ads ct__law_ads oc__law_ad_rows kV__law_ad_rows dc__law_ad_rows pm__law_ad_rows cd__law_ad_rows ct__law_ad_rows oc__law_stood kV__law_stood dc__law_stood pm__law_stood cd__law_stood ct__law_stood oc_law kV_law dc_law pm_law cd_law ct_law oc_UnlikeD_initD kV_UnlikeD_initD dc_UnlikeD_initD pm_UnlikeD_initD cd_UnlikeD_initD ct_UnlikeD_initD oc_BlockD_initD kV_BlockD_initD dc_BlockD_initD pm_BlockD_initD cd_BlockD_initD ct_BlockD_initD oc_BlockD_lenD kV_BlockD_lenD dc_BlockD_lenD pm_BlockD_lenD cd_BlockD_lenD ct_BlockD_lenD oc_Block_lines kV_Block_lines dc_Block_lines pm_Block_lines cd_Block_lines ct_Block_lines oc_StandD_initD kV_StandD_initD dc_StandD_initD pm_StandD_initD cd_StandD_initD ct_StandD_initD oc_Stand_top_over kV_Stand_top_over dc_Stand_top_over pm_Stand_top_over cd_Stand_top_over ct_Stand_top_over oc_Stand_lowest kV_Stand_lowest dc_Stand_lowest pm_Stand_lowest cd_Stand_lowest ct_Stand_lowest oc_Stand_put kV_Stand_put dc_Stand_put pm_Stand_put cd_Stand_put ct_Stand_put : Value}
    {tk_BETWEEN tk_EDGES : Tok}
    (a__wall : PySem.W.nsIn K mainGlobals "_wall" = some (some (.ref f__wall)))
    (a_framed : PySem.W.nsIn K mainGlobals "framed" = some (some (.ref f_framed)))
    (a_parted : PySem.W.nsIn K mainGlobals "parted" = some (some (.ref f_parted)))
    (a_words_of : PySem.W.nsIn K mainGlobals "words_of" = some (some (.ref f_words_of)))
    (a_filled : PySem.W.nsIn K mainGlobals "filled" = some (some (.ref f_filled)))
    (a_spread : PySem.W.nsIn K mainGlobals "spread" = some (some (.ref f_spread)))
    (a_paragraph_rows : PySem.W.nsIn K mainGlobals "paragraph_rows" = some (some (.ref f_paragraph_rows)))
    (a_set_rows : PySem.W.nsIn K mainGlobals "set_rows" = some (some (.ref f_set_rows)))
    (a_wide_of : PySem.W.nsIn K mainGlobals "wide_of" = some (some (.ref f_wide_of)))
    (a_ad_block : PySem.W.nsIn K mainGlobals "ad_block" = some (some (.ref f_ad_block)))
    (a_stood : PySem.W.nsIn K mainGlobals "stood" = some (some (.ref f_stood)))
    (a_stand_ads : PySem.W.nsIn K mainGlobals "stand_ads" = some (some (.ref f_stand_ads)))
    (a__law_feed : PySem.W.nsIn K mainGlobals "_law_feed" = some (some (.ref f__law_feed)))
    (a__law_draw : PySem.W.nsIn K mainGlobals "_law_draw" = some (some (.ref f__law_draw)))
    (a__law_names : PySem.W.nsIn K mainGlobals "_law_names" = some (some (.ref f__law_names)))
    (a__law_word : PySem.W.nsIn K mainGlobals "_law_word" = some (some (.ref f__law_word)))
    (a__law_text : PySem.W.nsIn K mainGlobals "_law_text" = some (some (.ref f__law_text)))
    (a__law_form : PySem.W.nsIn K mainGlobals "_law_form" = some (some (.ref f__law_form)))
    (a__law_ad : PySem.W.nsIn K mainGlobals "_law_ad" = some (some (.ref f__law_ad)))
    (a__law_ads : PySem.W.nsIn K mainGlobals "_law_ads" = some (some (.ref f__law_ads)))
    (a__law_ad_rows : PySem.W.nsIn K mainGlobals "_law_ad_rows" = some (some (.ref f__law_ad_rows)))
    (a__law_stood : PySem.W.nsIn K mainGlobals "_law_stood" = some (some (.ref f__law_stood)))
    (a_law : PySem.W.nsIn K mainGlobals "law" = some (some (.ref f_law)))
    (a_NightError : PySem.W.nsIn K mainGlobals "NightError" = some (some (.ref C_NightError)))
    (a_Unlike : PySem.W.nsIn K mainGlobals "Unlike" = some (some (.ref C_Unlike)))
    (a_Block : PySem.W.nsIn K mainGlobals "Block" = some (some (.ref C_Block)))
    (a_Stand : PySem.W.nsIn K mainGlobals "Stand" = some (some (.ref C_Stand)))
    (l__wall : K.lookup f__wall = some ⟨oc__wall, od__wall, .func (PySem.W.fnOf "_wall" "_wall" (defArgs s__wall) (defBody s__wall) (defScope s__wall) .none kV__wall dc__wall pm__wall an__wall cd__wall ct__wall), sl__wall⟩)
    (c__wall : PySem.W.codeIn K cd__wall "_wall" = true)
    (k__wall : PySem.W.keepIn K (.ref f__wall) = true)
    (l_framed : K.lookup f_framed = some ⟨oc_framed, od_framed, .func (PySem.W.fnOf "framed" "framed" (defArgs s_framed) (defBody s_framed) (defScope s_framed) .none kV_framed dc_framed pm_framed an_framed cd_framed ct_framed), sl_framed⟩)
    (c_framed : PySem.W.codeIn K cd_framed "framed" = true)
    (k_framed : PySem.W.keepIn K (.ref f_framed) = true)
    (l_parted : K.lookup f_parted = some ⟨oc_parted, od_parted, .func (PySem.W.fnOf "parted" "parted" (defArgs s_parted) (defBody s_parted) (defScope s_parted) .none kV_parted dc_parted pm_parted an_parted cd_parted ct_parted), sl_parted⟩)
    (c_parted : PySem.W.codeIn K cd_parted "parted" = true)
    (k_parted : PySem.W.keepIn K (.ref f_parted) = true)
    (l_words_of : K.lookup f_words_of = some ⟨oc_words_of, od_words_of, .func (PySem.W.fnOf "words_of" "words_of" (defArgs s_words_of) (defBody s_words_of) (defScope s_words_of) .none kV_words_of dc_words_of pm_words_of an_words_of cd_words_of ct_words_of), sl_words_of⟩)
    (c_words_of : PySem.W.codeIn K cd_words_of "words_of" = true)
    (k_words_of : PySem.W.keepIn K (.ref f_words_of) = true)
    (l_filled : K.lookup f_filled = some ⟨oc_filled, od_filled, .func (PySem.W.fnOf "filled" "filled" (defArgs s_filled) (defBody s_filled) (defScope s_filled) .none kV_filled dc_filled pm_filled an_filled cd_filled ct_filled), sl_filled⟩)
    (c_filled : PySem.W.codeIn K cd_filled "filled" = true)
    (k_filled : PySem.W.keepIn K (.ref f_filled) = true)
    (l_spread : K.lookup f_spread = some ⟨oc_spread, od_spread, .func (PySem.W.fnOf "spread" "spread" (defArgs s_spread) (defBody s_spread) (defScope s_spread) .none kV_spread dc_spread pm_spread an_spread cd_spread ct_spread), sl_spread⟩)
    (c_spread : PySem.W.codeIn K cd_spread "spread" = true)
    (k_spread : PySem.W.keepIn K (.ref f_spread) = true)
    (l_paragraph_rows : K.lookup f_paragraph_rows = some ⟨oc_paragraph_rows, od_paragraph_rows, .func (PySem.W.fnOf "paragraph_rows" "paragraph_rows" (defArgs s_paragraph_rows) (defBody s_paragraph_rows) (defScope s_paragraph_rows) .none kV_paragraph_rows dc_paragraph_rows pm_paragraph_rows an_paragraph_rows cd_paragraph_rows ct_paragraph_rows), sl_paragraph_rows⟩)
    (c_paragraph_rows : PySem.W.codeIn K cd_paragraph_rows "paragraph_rows" = true)
    (k_paragraph_rows : PySem.W.keepIn K (.ref f_paragraph_rows) = true)
    (l_set_rows : K.lookup f_set_rows = some ⟨oc_set_rows, od_set_rows, .func (PySem.W.fnOf "set_rows" "set_rows" (defArgs s_set_rows) (defBody s_set_rows) (defScope s_set_rows) dv_set_rows kV_set_rows dc_set_rows pm_set_rows an_set_rows cd_set_rows ct_set_rows), sl_set_rows⟩)
    (c_set_rows : PySem.W.codeIn K cd_set_rows "set_rows" = true)
    (k_set_rows : PySem.W.keepIn K (.ref f_set_rows) = true)
    {dT_set_rows : Addr} {dO_set_rows : Obj} {dI_set_rows : List Value} {dN_set_rows : Nat}
    (d1_set_rows : dv_set_rows = .ref dT_set_rows)
    (d2_set_rows : K.lookup dT_set_rows = some dO_set_rows)
    (d3_set_rows : dO_set_rows.data = .seq dI_set_rows.toArray dN_set_rows)
    (d4_set_rows : Vals [(.bl true), (.int 0)] dI_set_rows)
    (l_wide_of : K.lookup f_wide_of = some ⟨oc_wide_of, od_wide_of, .func (PySem.W.fnOf "wide_of" "wide_of" (defArgs s_wide_of) (defBody s_wide_of) (defScope s_wide_of) .none kV_wide_of dc_wide_of pm_wide_of an_wide_of cd_wide_of ct_wide_of), sl_wide_of⟩)
    (c_wide_of : PySem.W.codeIn K cd_wide_of "wide_of" = true)
    (k_wide_of : PySem.W.keepIn K (.ref f_wide_of) = true)
    (l_ad_block : K.lookup f_ad_block = some ⟨oc_ad_block, od_ad_block, .func (PySem.W.fnOf "ad_block" "ad_block" (defArgs s_ad_block) (defBody s_ad_block) (defScope s_ad_block) .none kV_ad_block dc_ad_block pm_ad_block an_ad_block cd_ad_block ct_ad_block), sl_ad_block⟩)
    (c_ad_block : PySem.W.codeIn K cd_ad_block "ad_block" = true)
    (k_ad_block : PySem.W.keepIn K (.ref f_ad_block) = true)
    (l_stood : K.lookup f_stood = some ⟨oc_stood, od_stood, .func (PySem.W.fnOf "stood" "stood" (defArgs s_stood) (defBody s_stood) (defScope s_stood) .none kV_stood dc_stood pm_stood an_stood cd_stood ct_stood), sl_stood⟩)
    (c_stood : PySem.W.codeIn K cd_stood "stood" = true)
    (k_stood : PySem.W.keepIn K (.ref f_stood) = true)
    (l_stand_ads : K.lookup f_stand_ads = some ⟨oc_stand_ads, od_stand_ads, .func (PySem.W.fnOf "stand_ads" "stand_ads" (defArgs s_stand_ads) (defBody s_stand_ads) (defScope s_stand_ads) dv_stand_ads kV_stand_ads dc_stand_ads pm_stand_ads an_stand_ads cd_stand_ads ct_stand_ads), sl_stand_ads⟩)
    (c_stand_ads : PySem.W.codeIn K cd_stand_ads "stand_ads" = true)
    (k_stand_ads : PySem.W.keepIn K (.ref f_stand_ads) = true)
    {dT_stand_ads : Addr} {dO_stand_ads : Obj} {dI_stand_ads : List Value} {dN_stand_ads : Nat}
    (d1_stand_ads : dv_stand_ads = .ref dT_stand_ads)
    (d2_stand_ads : K.lookup dT_stand_ads = some dO_stand_ads)
    (d3_stand_ads : dO_stand_ads.data = .seq dI_stand_ads.toArray dN_stand_ads)
    (d4_stand_ads : Vals [(.int 4)] dI_stand_ads)
    (l__law_feed : K.lookup f__law_feed = some ⟨oc__law_feed, od__law_feed, .func (PySem.W.fnOf "_law_feed" "_law_feed" (defArgs s__law_feed) (defBody s__law_feed) (defScope s__law_feed) .none kV__law_feed dc__law_feed pm__law_feed an__law_feed cd__law_feed ct__law_feed), sl__law_feed⟩)
    (c__law_feed : PySem.W.codeIn K cd__law_feed "_law_feed" = true)
    (k__law_feed : PySem.W.keepIn K (.ref f__law_feed) = true)
    (l__law_draw : K.lookup f__law_draw = some ⟨oc__law_draw, od__law_draw, .func (PySem.W.fnOf "_law_draw" "_law_draw" (defArgs s__law_draw) (defBody s__law_draw) (defScope s__law_draw) .none kV__law_draw dc__law_draw pm__law_draw an__law_draw cd__law_draw ct__law_draw), sl__law_draw⟩)
    (c__law_draw : PySem.W.codeIn K cd__law_draw "_law_draw" = true)
    (k__law_draw : PySem.W.keepIn K (.ref f__law_draw) = true)
    (l__law_names : K.lookup f__law_names = some ⟨oc__law_names, od__law_names, .func (PySem.W.fnOf "_law_names" "_law_names" (defArgs s__law_names) (defBody s__law_names) (defScope s__law_names) .none kV__law_names dc__law_names pm__law_names an__law_names cd__law_names ct__law_names), sl__law_names⟩)
    (c__law_names : PySem.W.codeIn K cd__law_names "_law_names" = true)
    (k__law_names : PySem.W.keepIn K (.ref f__law_names) = true)
    (l__law_word : K.lookup f__law_word = some ⟨oc__law_word, od__law_word, .func (PySem.W.fnOf "_law_word" "_law_word" (defArgs s__law_word) (defBody s__law_word) (defScope s__law_word) .none kV__law_word dc__law_word pm__law_word an__law_word cd__law_word ct__law_word), sl__law_word⟩)
    (c__law_word : PySem.W.codeIn K cd__law_word "_law_word" = true)
    (k__law_word : PySem.W.keepIn K (.ref f__law_word) = true)
    (l__law_text : K.lookup f__law_text = some ⟨oc__law_text, od__law_text, .func (PySem.W.fnOf "_law_text" "_law_text" (defArgs s__law_text) (defBody s__law_text) (defScope s__law_text) .none kV__law_text dc__law_text pm__law_text an__law_text cd__law_text ct__law_text), sl__law_text⟩)
    (c__law_text : PySem.W.codeIn K cd__law_text "_law_text" = true)
    (k__law_text : PySem.W.keepIn K (.ref f__law_text) = true)
    (l__law_form : K.lookup f__law_form = some ⟨oc__law_form, od__law_form, .func (PySem.W.fnOf "_law_form" "_law_form" (defArgs s__law_form) (defBody s__law_form) (defScope s__law_form) .none kV__law_form dc__law_form pm__law_form an__law_form cd__law_form ct__law_form), sl__law_form⟩)
    (c__law_form : PySem.W.codeIn K cd__law_form "_law_form" = true)
    (k__law_form : PySem.W.keepIn K (.ref f__law_form) = true)
    (l__law_ad : K.lookup f__law_ad = some ⟨oc__law_ad, od__law_ad, .func (PySem.W.fnOf "_law_ad" "_law_ad" (defArgs s__law_ad) (defBody s__law_ad) (defScope s__law_ad) .none kV__law_ad dc__law_ad pm__law_ad an__law_ad cd__law_ad ct__law_ad), sl__law_ad⟩)
    (c__law_ad : PySem.W.codeIn K cd__law_ad "_law_ad" = true)
    (k__law_ad : PySem.W.keepIn K (.ref f__law_ad) = true)
    (l__law_ads : K.lookup f__law_ads = some ⟨oc__law_ads, od__law_ads, .func (PySem.W.fnOf "_law_ads" "_law_ads" (defArgs s__law_ads) (defBody s__law_ads) (defScope s__law_ads) .none kV__law_ads dc__law_ads pm__law_ads an__law_ads cd__law_ads ct__law_ads), sl__law_ads⟩)
    (c__law_ads : PySem.W.codeIn K cd__law_ads "_law_ads" = true)
    (k__law_ads : PySem.W.keepIn K (.ref f__law_ads) = true)
    (l__law_ad_rows : K.lookup f__law_ad_rows = some ⟨oc__law_ad_rows, od__law_ad_rows, .func (PySem.W.fnOf "_law_ad_rows" "_law_ad_rows" (defArgs s__law_ad_rows) (defBody s__law_ad_rows) (defScope s__law_ad_rows) .none kV__law_ad_rows dc__law_ad_rows pm__law_ad_rows an__law_ad_rows cd__law_ad_rows ct__law_ad_rows), sl__law_ad_rows⟩)
    (c__law_ad_rows : PySem.W.codeIn K cd__law_ad_rows "_law_ad_rows" = true)
    (k__law_ad_rows : PySem.W.keepIn K (.ref f__law_ad_rows) = true)
    (l__law_stood : K.lookup f__law_stood = some ⟨oc__law_stood, od__law_stood, .func (PySem.W.fnOf "_law_stood" "_law_stood" (defArgs s__law_stood) (defBody s__law_stood) (defScope s__law_stood) .none kV__law_stood dc__law_stood pm__law_stood an__law_stood cd__law_stood ct__law_stood), sl__law_stood⟩)
    (c__law_stood : PySem.W.codeIn K cd__law_stood "_law_stood" = true)
    (k__law_stood : PySem.W.keepIn K (.ref f__law_stood) = true)
    (l_law : K.lookup f_law = some ⟨oc_law, od_law, .func (PySem.W.fnOf "law" "law" (defArgs s_law) (defBody s_law) (defScope s_law) .none kV_law dc_law pm_law an_law cd_law ct_law), sl_law⟩)
    (c_law : PySem.W.codeIn K cd_law "law" = true)
    (k_law : PySem.W.keepIn K (.ref f_law) = true)
    (fi_UnlikeD_initD : PySem.W.findIn K (.ref C_Unlike) "__init__" = some (some (.ref f_UnlikeD_initD)))
    (ft_UnlikeD_initD : PySem.W.typeIn K (.ref f_UnlikeD_initD) = some (.type "function"))
    (l_UnlikeD_initD : K.lookup f_UnlikeD_initD = some ⟨oc_UnlikeD_initD, od_UnlikeD_initD, .func (PySem.W.fnOf "__init__" "Unlike.__init__" (defArgs s_UnlikeD_initD) (defBody s_UnlikeD_initD) (defScope s_UnlikeD_initD) .none kV_UnlikeD_initD dc_UnlikeD_initD pm_UnlikeD_initD an_UnlikeD_initD cd_UnlikeD_initD ct_UnlikeD_initD), sl_UnlikeD_initD⟩)
    (c_UnlikeD_initD : PySem.W.codeIn K cd_UnlikeD_initD "Unlike.__init__" = true)
    (k_UnlikeD_initD : PySem.W.keepIn K (.ref f_UnlikeD_initD) = true)
    (fi_BlockD_initD : PySem.W.findIn K (.ref C_Block) "__init__" = some (some (.ref f_BlockD_initD)))
    (xf_BlockD_initD : PySem.W.isFn K (.ref f_BlockD_initD) = true)
    (ft_BlockD_initD : PySem.W.typeIn K (.ref f_BlockD_initD) = some (.type "function"))
    (l_BlockD_initD : K.lookup f_BlockD_initD = some ⟨oc_BlockD_initD, od_BlockD_initD, .func (PySem.W.fnOf "__init__" "Block.__init__" (defArgs s_BlockD_initD) (defBody s_BlockD_initD) (defScope s_BlockD_initD) .none kV_BlockD_initD dc_BlockD_initD pm_BlockD_initD an_BlockD_initD cd_BlockD_initD ct_BlockD_initD), sl_BlockD_initD⟩)
    (c_BlockD_initD : PySem.W.codeIn K cd_BlockD_initD "Block.__init__" = true)
    (k_BlockD_initD : PySem.W.keepIn K (.ref f_BlockD_initD) = true)
    (fi_BlockD_lenD : PySem.W.findIn K (.ref C_Block) "__len__" = some (some (.ref f_BlockD_lenD)))
    (xf_BlockD_lenD : PySem.W.isFn K (.ref f_BlockD_lenD) = true)
    (ft_BlockD_lenD : PySem.W.typeIn K (.ref f_BlockD_lenD) = some (.type "function"))
    (l_BlockD_lenD : K.lookup f_BlockD_lenD = some ⟨oc_BlockD_lenD, od_BlockD_lenD, .func (PySem.W.fnOf "__len__" "Block.__len__" (defArgs s_BlockD_lenD) (defBody s_BlockD_lenD) (defScope s_BlockD_lenD) .none kV_BlockD_lenD dc_BlockD_lenD pm_BlockD_lenD an_BlockD_lenD cd_BlockD_lenD ct_BlockD_lenD), sl_BlockD_lenD⟩)
    (c_BlockD_lenD : PySem.W.codeIn K cd_BlockD_lenD "Block.__len__" = true)
    (k_BlockD_lenD : PySem.W.keepIn K (.ref f_BlockD_lenD) = true)
    (fi_Block_lines : PySem.W.findIn K (.ref C_Block) "lines" = some (some (.ref f_Block_lines)))
    (xf_Block_lines : PySem.W.isFn K (.ref f_Block_lines) = true)
    (ft_Block_lines : PySem.W.typeIn K (.ref f_Block_lines) = some (.type "function"))
    (l_Block_lines : K.lookup f_Block_lines = some ⟨oc_Block_lines, od_Block_lines, .func (PySem.W.fnOf "lines" "Block.lines" (defArgs s_Block_lines) (defBody s_Block_lines) (defScope s_Block_lines) .none kV_Block_lines dc_Block_lines pm_Block_lines an_Block_lines cd_Block_lines ct_Block_lines), sl_Block_lines⟩)
    (c_Block_lines : PySem.W.codeIn K cd_Block_lines "Block.lines" = true)
    (k_Block_lines : PySem.W.keepIn K (.ref f_Block_lines) = true)
    (fi_StandD_initD : PySem.W.findIn K (.ref C_Stand) "__init__" = some (some (.ref f_StandD_initD)))
    (xf_StandD_initD : PySem.W.isFn K (.ref f_StandD_initD) = true)
    (ft_StandD_initD : PySem.W.typeIn K (.ref f_StandD_initD) = some (.type "function"))
    (l_StandD_initD : K.lookup f_StandD_initD = some ⟨oc_StandD_initD, od_StandD_initD, .func (PySem.W.fnOf "__init__" "Stand.__init__" (defArgs s_StandD_initD) (defBody s_StandD_initD) (defScope s_StandD_initD) .none kV_StandD_initD dc_StandD_initD pm_StandD_initD an_StandD_initD cd_StandD_initD ct_StandD_initD), sl_StandD_initD⟩)
    (c_StandD_initD : PySem.W.codeIn K cd_StandD_initD "Stand.__init__" = true)
    (k_StandD_initD : PySem.W.keepIn K (.ref f_StandD_initD) = true)
    (fi_Stand_top_over : PySem.W.findIn K (.ref C_Stand) "top_over" = some (some (.ref f_Stand_top_over)))
    (xf_Stand_top_over : PySem.W.isFn K (.ref f_Stand_top_over) = true)
    (ft_Stand_top_over : PySem.W.typeIn K (.ref f_Stand_top_over) = some (.type "function"))
    (l_Stand_top_over : K.lookup f_Stand_top_over = some ⟨oc_Stand_top_over, od_Stand_top_over, .func (PySem.W.fnOf "top_over" "Stand.top_over" (defArgs s_Stand_top_over) (defBody s_Stand_top_over) (defScope s_Stand_top_over) .none kV_Stand_top_over dc_Stand_top_over pm_Stand_top_over an_Stand_top_over cd_Stand_top_over ct_Stand_top_over), sl_Stand_top_over⟩)
    (c_Stand_top_over : PySem.W.codeIn K cd_Stand_top_over "Stand.top_over" = true)
    (k_Stand_top_over : PySem.W.keepIn K (.ref f_Stand_top_over) = true)
    (fi_Stand_lowest : PySem.W.findIn K (.ref C_Stand) "lowest" = some (some (.ref f_Stand_lowest)))
    (xf_Stand_lowest : PySem.W.isFn K (.ref f_Stand_lowest) = true)
    (ft_Stand_lowest : PySem.W.typeIn K (.ref f_Stand_lowest) = some (.type "function"))
    (l_Stand_lowest : K.lookup f_Stand_lowest = some ⟨oc_Stand_lowest, od_Stand_lowest, .func (PySem.W.fnOf "lowest" "Stand.lowest" (defArgs s_Stand_lowest) (defBody s_Stand_lowest) (defScope s_Stand_lowest) .none kV_Stand_lowest dc_Stand_lowest pm_Stand_lowest an_Stand_lowest cd_Stand_lowest ct_Stand_lowest), sl_Stand_lowest⟩)
    (c_Stand_lowest : PySem.W.codeIn K cd_Stand_lowest "Stand.lowest" = true)
    (k_Stand_lowest : PySem.W.keepIn K (.ref f_Stand_lowest) = true)
    (fi_Stand_put : PySem.W.findIn K (.ref C_Stand) "put" = some (some (.ref f_Stand_put)))
    (xf_Stand_put : PySem.W.isFn K (.ref f_Stand_put) = true)
    (ft_Stand_put : PySem.W.typeIn K (.ref f_Stand_put) = some (.type "function"))
    (l_Stand_put : K.lookup f_Stand_put = some ⟨oc_Stand_put, od_Stand_put, .func (PySem.W.fnOf "put" "Stand.put" (defArgs s_Stand_put) (defBody s_Stand_put) (defScope s_Stand_put) .none kV_Stand_put dc_Stand_put pm_Stand_put an_Stand_put cd_Stand_put ct_Stand_put), sl_Stand_put⟩)
    (c_Stand_put : PySem.W.codeIn K cd_Stand_put "Stand.put" = true)
    (k_Stand_put : PySem.W.keepIn K (.ref f_Stand_put) = true)
    (z_divmod : PySem.W.nsIn K mainGlobals "divmod" = some none)
    (z_enumerate : PySem.W.nsIn K mainGlobals "enumerate" = some none)
    (z_int : PySem.W.nsIn K mainGlobals "int" = some none)
    (z_isinstance : PySem.W.nsIn K mainGlobals "isinstance" = some none)
    (z_len : PySem.W.nsIn K mainGlobals "len" = some none)
    (z_list : PySem.W.nsIn K mainGlobals "list" = some none)
    (z_max : PySem.W.nsIn K mainGlobals "max" = some none)
    (z_min : PySem.W.nsIn K mainGlobals "min" = some none)
    (z_range : PySem.W.nsIn K mainGlobals "range" = some none)
    (z_repr : PySem.W.nsIn K mainGlobals "repr" = some none)
    (z_sum : PySem.W.nsIn K mainGlobals "sum" = some none)
    (g_BETWEEN : PySem.W.nsIn K mainGlobals "BETWEEN" = some (some (.int 3 tk_BETWEEN)))
    (g_EDGES : PySem.W.nsIn K mainGlobals "EDGES" = some (some (.int 4 tk_EDGES)))
    (bs_NightError : PySem.W.specialIn K (.ref C_NightError) "__getattribute__" = some (some (.builtin "type.__getattribute__")))
    (br_NightError : PySem.W.readsIn K C_NightError (.type "type") = true)
    (bi_NightError : PySem.W.findCls K (.ref C_NightError) (.type "type") "__init__" = some (.val (.builtin "ValueError.__init__")))
    {nm_Unlike q_Unlike : Str} {N_Unlike : Addr} {bs1_Unlike bm_Unlike sub_Unlike : List Value} {sn_Unlike : List Str} {ab_Unlike : Bool} {col_Unlike : Option Bool} {dd_Unlike : Option Addr} {m0_Unlike m1_Unlike m2_Unlike m3_Unlike m5_Unlike : Option Value}
    (xl_Unlike : K.lookup C_Unlike = some (excClassObj nm_Unlike q_Unlike C_Unlike N_Unlike bs1_Unlike bm_Unlike true sn_Unlike sub_Unlike ab_Unlike col_Unlike dd_Unlike m0_Unlike m1_Unlike m2_Unlike m3_Unlike m5_Unlike "ValueError.__new__"))
    (xr_Unlike : PySem.HandSPX.refsVE bm_Unlike = true)
    (xs_Unlike : PySem.W.findIn K (.ref C_Unlike) "__setattr__" = some (some (.builtin "object.__setattr__")))
    (xe_Unlike : PySem.W.subIn K (.ref C_Unlike) (.type "BaseException") = some true)
    (xt_Unlike : PySem.W.typeIn K (.ref C_Unlike) = some (.type "type"))
    (xk_Unlike : PySem.W.keepIn K (.ref C_Unlike) = true)
    (eg_Unlike : PySem.W.findIn K (.ref C_Unlike) "__getattribute__" = some (some (.builtin "BaseException.__getattribute__")))
    (ek_Unlike : PySem.W.findIn K (.ref C_Unlike) "__getattr__" = some none)
    (ed_Unlike : PySem.W.hasDictIn K C_Unlike = true)
    (ea_Unlike : PySem.W.findIn K (.ref C_Unlike) "__class__" = some (some (.builtin "object.__class__")))
    (en_Unlike : PySem.W.specialIn K (.builtin "object.__class__") "__get__" = some (some (.builtin "getset_descriptor.__get__")))
    (et_Unlike : PySem.W.takesIn K (.builtin "object.__class__") = some true)
    (em_Unlike : PySem.W.mroIn K C_Unlike (.type "object") = some true)
    (no_Unlike_one : PySem.W.findIn K (.ref C_Unlike) "one" = some none)
    (no_Unlike_other : PySem.W.findIn K (.ref C_Unlike) "other" = some none)
    (cg_Block : PySem.W.plainGet K C_Block Str.empty = true)
    (ch_Block : PySem.W.hasDictIn K C_Block = true)
    (cp_Block : PySem.W.plainOver K C_Block = true)
    (xs_Block : PySem.W.findIn K (.ref C_Block) "__setattr__" = some (some (.builtin "object.__setattr__")))
    (xk_Block : PySem.W.keepIn K (.ref C_Block) = true)
    (xm_Block : PySem.W.makesIn K C_Block = true)
    (no_Block_kept : PySem.W.findIn K (.ref C_Block) "kept" = some none)
    (no_Block_wide : PySem.W.findIn K (.ref C_Block) "wide" = some none)
    (cg_Stand : PySem.W.plainGet K C_Stand Str.empty = true)
    (ch_Stand : PySem.W.hasDictIn K C_Stand = true)
    (cp_Stand : PySem.W.plainOver K C_Stand = true)
    (xs_Stand : PySem.W.findIn K (.ref C_Stand) "__setattr__" = some (some (.builtin "object.__setattr__")))
    (xk_Stand : PySem.W.keepIn K (.ref C_Stand) = true)
    (xm_Stand : PySem.W.makesIn K C_Stand = true)
    (no_Stand_form : PySem.W.findIn K (.ref C_Stand) "form" = some none)
    (no_Stand_keep : PySem.W.findIn K (.ref C_Stand) "keep" = some none)
    (no_Stand_tops : PySem.W.findIn K (.ref C_Stand) "tops" = some none)
    (no_Stand_spots : PySem.W.findIn K (.ref C_Stand) "spots" = some none)
    (no_Stand_blocks : PySem.W.findIn K (.ref C_Stand) "blocks" = some none)
    (no_Stand_unstood : PySem.W.findIn K (.ref C_Stand) "unstood" = some none)
    {P_Stand_lowest Q_Stand_lowest : Addr} {cO_Stand_lowest : Obj} {vF_Stand_lowest : Array Value}
    (hc_Stand_lowest : cd_Stand_lowest = .ref Q_Stand_lowest)
    (tq_Stand_lowest : K.lookup Q_Stand_lowest = some cO_Stand_lowest)
    (td_Stand_lowest : cO_Stand_lowest.data = .fields vF_Stand_lowest)
    (tv_Stand_lowest : vF_Stand_lowest[11]? = some (.ref P_Stand_lowest))
    (nt_Stand_lowest : K.lookup P_Stand_lowest = none)
    (hh_Stand_lowest : PySem.W.codeHdIn K Q_Stand_lowest P_Stand_lowest = true)
    (ht_Stand_lowest : h.get? P_Stand_lowest = some { cls := .none, data := .fields #[] })
    : ∃ (c : Ad) (fd : FuncData), (∀ (s : Shared) (v : Value), BindsTo s fd ⟨[v], []⟩ [("_law_script", v)]) ∧ (h.get? c.P_Stand_lowest = some { cls := .none, data := .fields #[] } ∧ PySem.W.codeHdIn K c.Q_Stand_lowest c.P_Stand_lowest = true ∧ K.lookup c.P_Stand_lowest = none) ∧ ∀ base : Heap, K.In base → base.Ns mainGlobals mg → (∀ p ∈ ([(c.Q_Stand_lowest, c.P_Stand_lowest)] : List (Addr × Addr)), LamX.TabB base mg p.1 p.2) → FnG l.prog w K mg base CX0 12 fa fd ["_law_script"] (sp_law K c) := by
  have e := hfa.symm.trans (PySem.W.mg_of X G a_law)
  cases e
  have T : Txt K mg (⟨C_NightError, C_Unlike, C_Block, C_Stand, P_Stand_lowest, Q_Stand_lowest, (fun x => if x = "NightError" then C_NightError else if x = "Unlike" then C_Unlike else if x = "Block" then C_Block else if x = "Stand" then C_Stand else 0)⟩ : Ad) := ⟨PySem.W.mg_none_of X G z_divmod, PySem.W.mg_none_of X G z_enumerate, PySem.W.mg_none_of X G z_int, PySem.W.mg_none_of X G z_isinstance, PySem.W.mg_none_of X G z_len, PySem.W.mg_none_of X G z_list, PySem.W.mg_none_of X G z_max, PySem.W.mg_none_of X G z_min, PySem.W.mg_none_of X G z_range, PySem.W.mg_none_of X G z_repr, PySem.W.mg_none_of X G z_sum, ⟨_, PySem.W.mg_of X G g_BETWEEN, ⟨_, rfl⟩⟩, ⟨_, PySem.W.mg_of X G g_EDGES, ⟨_, rfl⟩⟩, PySem.W.mg_of X G a_NightError, PySem.W.mg_of X G a_Unlike, PySem.W.mg_of X G a_Block, PySem.W.mg_of X G a_Stand, ⟨PySem.W.mg_of X G a_NightError, bs_NightError, br_NightError, bi_NightError⟩, ⟨⟨_, _, _, _, _, _, _, _, _, _, _, _, _, _, _, xl_Unlike, xr_Unlike⟩, xs_Unlike, xe_Unlike, xt_Unlike, xk_Unlike⟩, ⟨eg_Unlike, ek_Unlike, xe_Unlike, ed_Unlike, ea_Unlike, en_Unlike, et_Unlike, em_Unlike⟩, no_Unlike_one, no_Unlike_other, rfl, rfl, ⟨cg_Block, ch_Block, cp_Block, xs_Block⟩, no_Block_kept, no_Block_wide, rfl, ⟨cg_Stand, ch_Stand, cp_Stand, xs_Stand⟩, no_Stand_form, no_Stand_keep, no_Stand_tops, no_Stand_spots, no_Stand_blocks, no_Stand_unstood⟩
  have F__wall := fun_mk (st := s__wall) l__wall c__wall k__wall
  have F_framed := fun_mk (st := s_framed) l_framed c_framed k_framed
  have F_parted := fun_mk (st := s_parted) l_parted c_parted k_parted
  have F_words_of := fun_mk (st := s_words_of) l_words_of c_words_of k_words_of
  have F_filled := fun_mk (st := s_filled) l_filled c_filled k_filled
  have F_spread := fun_mk (st := s_spread) l_spread c_spread k_spread
  have F_paragraph_rows := fun_mk (st := s_paragraph_rows) l_paragraph_rows c_paragraph_rows k_paragraph_rows
  have F_set_rows : FunD K "set_rows" "set_rows" (defArgs s_set_rows) (defBody s_set_rows) (defScope s_set_rows) [(.bl true), (.int 0)] [] f_set_rows _ := ⟨⟨_, _, _, _, _, _, _, _, _, _, rfl, l_set_rows, c_set_rows, Or.inr ⟨fun z => (nomatch z), _, _, _, _, d1_set_rows, d2_set_rows, d3_set_rows, d4_set_rows⟩, Or.inl rfl⟩, k_set_rows⟩
  have F_wide_of := fun_mk (st := s_wide_of) l_wide_of c_wide_of k_wide_of
  have F_ad_block := fun_mk (st := s_ad_block) l_ad_block c_ad_block k_ad_block
  have F_stood := fun_mk (st := s_stood) l_stood c_stood k_stood
  have F_stand_ads : FunD K "stand_ads" "stand_ads" (defArgs s_stand_ads) (defBody s_stand_ads) (defScope s_stand_ads) [(.int 4)] [] f_stand_ads _ := ⟨⟨_, _, _, _, _, _, _, _, _, _, rfl, l_stand_ads, c_stand_ads, Or.inr ⟨fun z => (nomatch z), _, _, _, _, d1_stand_ads, d2_stand_ads, d3_stand_ads, d4_stand_ads⟩, Or.inl rfl⟩, k_stand_ads⟩
  have F__law_feed := fun_mk (st := s__law_feed) l__law_feed c__law_feed k__law_feed
  have F__law_draw := fun_mk (st := s__law_draw) l__law_draw c__law_draw k__law_draw
  have F__law_names := fun_mk (st := s__law_names) l__law_names c__law_names k__law_names
  have F__law_word := fun_mk (st := s__law_word) l__law_word c__law_word k__law_word
  have F__law_text := fun_mk (st := s__law_text) l__law_text c__law_text k__law_text
  have F__law_form := fun_mk (st := s__law_form) l__law_form c__law_form k__law_form
  have F__law_ad := fun_mk (st := s__law_ad) l__law_ad c__law_ad k__law_ad
  have F__law_ads := fun_mk (st := s__law_ads) l__law_ads c__law_ads k__law_ads
  have F__law_ad_rows := fun_mk (st := s__law_ad_rows) l__law_ad_rows c__law_ad_rows k__law_ad_rows
  have F__law_stood := fun_mk (st := s__law_stood) l__law_stood c__law_stood k__law_stood
  have F_law := fun_mk (st := s_law) l_law c_law k_law
  have F_UnlikeD_initD := fun_mk (st := s_UnlikeD_initD) l_UnlikeD_initD c_UnlikeD_initD k_UnlikeD_initD
  have F_BlockD_initD := fun_mk (st := s_BlockD_initD) l_BlockD_initD c_BlockD_initD k_BlockD_initD
  have F_BlockD_lenD := fun_mk (st := s_BlockD_lenD) l_BlockD_lenD c_BlockD_lenD k_BlockD_lenD
  have F_Block_lines := fun_mk (st := s_Block_lines) l_Block_lines c_Block_lines k_Block_lines
  have F_StandD_initD := fun_mk (st := s_StandD_initD) l_StandD_initD c_StandD_initD k_StandD_initD
  have F_Stand_top_over := fun_mk (st := s_Stand_top_over) l_Stand_top_over c_Stand_top_over k_Stand_top_over
  have F_Stand_lowest := fun_mk (st := s_Stand_lowest) l_Stand_lowest c_Stand_lowest k_Stand_lowest
  have F_Stand_put := fun_mk (st := s_Stand_put) l_Stand_put c_Stand_put k_Stand_put
  have B__wall := F__wall.binds (ps := ps__wall) fun _ _ _ _ _ _ us hl => match us, hl with | [_], _ => rfl
  have B_framed := F_framed.binds (ps := ps_framed) fun _ _ _ _ _ _ us hl => match us, hl with | [_], _ => rfl
  have B_parted := F_parted.binds (ps := ps_parted) fun _ _ _ _ _ _ us hl => match us, hl with | [_, _], _ => rfl
  have B_words_of := F_words_of.binds (ps := ps_words_of) fun _ _ _ _ _ _ us hl => match us, hl with | [_], _ => rfl
  have B_filled := F_filled.binds (ps := ps_filled) fun _ _ _ _ _ _ us hl => match us, hl with | [_, _], _ => rfl
  have B_spread := F_spread.binds (ps := ps_spread) fun _ _ _ _ _ _ us hl => match us, hl with | [_, _], _ => rfl
  have B_paragraph_rows := F_paragraph_rows.binds (ps := ps_paragraph_rows) fun _ _ _ _ _ _ us hl => match us, hl with | [_, _, _], _ => rfl
  have BD_set_rows_3 : ∃ ds, Vals (([(.bl true), (.int 0)] : List V).drop 1) ds ∧ Binds K _ ps_set_rows ds := F_set_rows.binds1 3 1 (fun z => (nomatch z)) rfl fun _ _ _ _ _ _ _ us its h1 h2 => match us, its, h1, h2 with | [_, _, _], [_, _], _, _ => ⟨_, rfl, rfl⟩
  have KB_set_rows_2_full : KB K _ ps_set_rows 2 ["full"] (pickL [(.bl true), (.int 0)] [.a 0, .a 1, .z 0, .c 1]) := FunD.kbp F_set_rows 2 _ [.a 0, .a 1, .z 0, .c 1] (fun z => (nomatch z)) fun _ _ _ _ _ _ _ us its ws h1 h2 h3 => match us, its, ws, h1, h2, h3 with | [_, _], [_, _], [_], _, _, _ => ⟨_, rfl, rfl⟩
  have B_wide_of := F_wide_of.binds (ps := ps_wide_of) fun _ _ _ _ _ _ us hl => match us, hl with | [_, _], _ => rfl
  have B_ad_block := F_ad_block.binds (ps := ps_ad_block) fun _ _ _ _ _ _ us hl => match us, hl with | [_, _], _ => rfl
  have B_stood := F_stood.binds (ps := ps_stood) fun _ _ _ _ _ _ us hl => match us, hl with | [_, _, _], _ => rfl
  obtain ⟨ds_stand_ads, hv_stand_ads, B_stand_ads⟩ := F_stand_ads.binds1 (ps := ps_stand_ads) 3 1 (fun z => (nomatch z)) rfl fun _ _ _ _ _ _ _ us its h1 h2 => match us, its, h1, h2 with | [_, _, _], [_], _, _ => ⟨_, rfl, rfl⟩
  cases hv_stand_ads
  have BD_stand_ads_2 : ∃ ds, Vals (([(.int 4)] : List V).drop 0) ds ∧ Binds K _ ps_stand_ads ds := F_stand_ads.binds1 2 0 (fun z => (nomatch z)) rfl fun _ _ _ _ _ _ _ us its h1 h2 => match us, its, h1, h2 with | [_, _], [_], _, _ => ⟨_, rfl, rfl⟩
  have KB_stand_ads_0_keep_ads_form : KB K _ ps_stand_ads 0 ["keep", "ads", "form"] (pickL [(.int 4)] [.z 2, .z 1, .z 0]) := FunD.kbp F_stand_ads 0 _ [.z 2, .z 1, .z 0] (fun z => (nomatch z)) fun _ _ _ _ _ _ _ us its ws h1 h2 h3 => match us, its, ws, h1, h2, h3 with | [], [_], [_, _, _], _, _, _ => ⟨_, rfl, rfl⟩
  have B__law_feed := F__law_feed.binds (ps := ps__law_feed) fun _ _ _ _ _ _ us hl => match us, hl with | [_], _ => rfl
  have B__law_draw := F__law_draw.binds (ps := ps__law_draw) fun _ _ _ _ _ _ us hl => match us, hl with | [_, _], _ => rfl
  have B__law_names := F__law_names.binds (ps := ps__law_names) fun _ _ _ _ _ _ us hl => match us, hl with | [_, _], _ => rfl
  have B__law_word := F__law_word.binds (ps := ps__law_word) fun _ _ _ _ _ _ us hl => match us, hl with | [_, _], _ => rfl
  have B__law_text := F__law_text.binds (ps := ps__law_text) fun _ _ _ _ _ _ us hl => match us, hl with | [_, _, _], _ => rfl
  have B__law_form := F__law_form.binds (ps := ps__law_form) fun _ _ _ _ _ _ us hl => match us, hl with | [_], _ => rfl
  have B__law_ad := F__law_ad.binds (ps := ps__law_ad) fun _ _ _ _ _ _ us hl => match us, hl with | [_, _, _], _ => rfl
  have B__law_ads := F__law_ads.binds (ps := ps__law_ads) fun _ _ _ _ _ _ us hl => match us, hl with | [_, _, _], _ => rfl
  have B__law_ad_rows := F__law_ad_rows.binds (ps := ps__law_ad_rows) fun _ _ _ _ _ _ us hl => match us, hl with | [_, _], _ => rfl
  have B__law_stood := F__law_stood.binds (ps := ps__law_stood) fun _ _ _ _ _ _ us hl => match us, hl with | [_, _, _], _ => rfl
  have B_UnlikeD_initD := F_UnlikeD_initD.binds (ps := ps_UnlikeD_initD) fun _ _ _ _ _ _ us hl => match us, hl with | [_, _, _], _ => rfl
  have B_BlockD_initD := F_BlockD_initD.binds (ps := ps_BlockD_initD) fun _ _ _ _ _ _ us hl => match us, hl with | [_, _, _], _ => rfl
  have B_BlockD_lenD := F_BlockD_lenD.binds (ps := ps_BlockD_lenD) fun _ _ _ _ _ _ us hl => match us, hl with | [_], _ => rfl
  have B_Block_lines := F_Block_lines.binds (ps := ps_Block_lines) fun _ _ _ _ _ _ us hl => match us, hl with | [_], _ => rfl
  have B_StandD_initD := F_StandD_initD.binds (ps := ps_StandD_initD) fun _ _ _ _ _ _ us hl => match us, hl with | [_, _, _], _ => rfl
  have B_Stand_top_over := F_Stand_top_over.binds (ps := ps_Stand_top_over) fun _ _ _ _ _ _ us hl => match us, hl with | [_, _, _], _ => rfl
  have B_Stand_lowest := F_Stand_lowest.binds (ps := ps_Stand_lowest) fun _ _ _ _ _ _ us hl => match us, hl with | [_, _], _ => rfl
  have B_Stand_put := F_Stand_put.binds (ps := ps_Stand_put) fun _ _ _ _ _ _ us hl => match us, hl with | [_, _], _ => rfl
  refine ⟨(⟨C_NightError, C_Unlike, C_Block, C_Stand, P_Stand_lowest, Q_Stand_lowest, (fun x => if x = "NightError" then C_NightError else if x = "Unlike" then C_Unlike else if x = "Block" then C_Block else if x = "Stand" then C_Stand else 0)⟩ : Ad), PySem.W.fnOf "law" "law" (defArgs s_law) (defBody s_law) (defScope s_law) .none kV_law dc_law pm_law an_law cd_law ct_law, fun s v => .of_eq rfl, ⟨ht_Stand_lowest, hh_Stand_lowest, nt_Stand_lowest⟩, fun base _ _ hTB => ?_⟩
  have TB_Stand_lowest := hTB _ (.head _)
  have HC_Stand_lowest := hc_Stand_lowest
  have R_Unlike : RaiseC l.prog w K mg base C_Unlike "Unlike" ps_UnlikeD_initD ["one", "other"] := ⟨f_UnlikeD_initD, _, fi_UnlikeD_initD, ft_UnlikeD_initD, ok_UnlikeD_initD T F_UnlikeD_initD, B_UnlikeD_initD⟩
  have G_BlockD_initD : FnG l.prog w K mg base (L2.CX l.prog w) 4 f_BlockD_initD _ ps_BlockD_initD (sp_BlockD_initD K (⟨C_NightError, C_Unlike, C_Block, C_Stand, P_Stand_lowest, Q_Stand_lowest, (fun x => if x = "NightError" then C_NightError else if x = "Unlike" then C_Unlike else if x = "Block" then C_Block else if x = "Stand" then C_Stand else 0)⟩ : Ad)) := ok_BlockD_initD T F_BlockD_initD R_Unlike
  have MC_Block_2_ : MkC l.prog w K mg base (L2.CX l.prog w) 4 C_Block ps_BlockD_initD (sp_BlockD_initD K (⟨C_NightError, C_Unlike, C_Block, C_Stand, P_Stand_lowest, Q_Stand_lowest, (fun x => if x = "NightError" then C_NightError else if x = "Unlike" then C_Unlike else if x = "Block" then C_Block else if x = "Stand" then C_Stand else 0)⟩ : Ad)) 2 [] (pickL [] (.a 0 :: [.a 0, .a 1].map shIx)) := ⟨f_BlockD_initD, _, ⟨xm_Block, fi_BlockD_initD, xf_BlockD_initD, xk_Block⟩, G_BlockD_initD, Fun.kbp F_BlockD_initD 3 _ (.a 0 :: [.a 0, .a 1].map shIx) fun _ _ _ _ _ _ us ws h1 h2 => match us, ws, h1, h2 with | [_, _, _], [], _, _ => rfl⟩
  have G_BlockD_lenD : FnG l.prog w K mg base CX0 1 f_BlockD_lenD _ ps_BlockD_lenD (sp_BlockD_lenD K (⟨C_NightError, C_Unlike, C_Block, C_Stand, P_Stand_lowest, Q_Stand_lowest, (fun x => if x = "NightError" then C_NightError else if x = "Unlike" then C_Unlike else if x = "Block" then C_Block else if x = "Stand" then C_Stand else 0)⟩ : Ad)) := ok_BlockD_lenD T F_BlockD_lenD 
  have SP_BlockD_lenD : SpC l.prog w K mg base 1 C_Block "__len__" ps_BlockD_lenD (sp_BlockD_lenD K (⟨C_NightError, C_Unlike, C_Block, C_Stand, P_Stand_lowest, Q_Stand_lowest, (fun x => if x = "NightError" then C_NightError else if x = "Unlike" then C_Unlike else if x = "Block" then C_Block else if x = "Stand" then C_Stand else 0)⟩ : Ad)) := ⟨f_BlockD_lenD, _, G_BlockD_lenD, B_BlockD_lenD, fi_BlockD_lenD, xf_BlockD_lenD⟩
  have G_Block_lines : FnG l.prog w K mg base CX0 1 f_Block_lines _ ps_Block_lines (sp_Block_lines K (⟨C_NightError, C_Unlike, C_Block, C_Stand, P_Stand_lowest, Q_Stand_lowest, (fun x => if x = "NightError" then C_NightError else if x = "Unlike" then C_Unlike else if x = "Block" then C_Block else if x = "Stand" then C_Stand else 0)⟩ : Ad)) := ok_Block_lines T F_Block_lines 
  have ME_Block_lines : MeC l.prog w K mg base CX0 1 C_Block "lines" ps_Block_lines (sp_Block_lines K (⟨C_NightError, C_Unlike, C_Block, C_Stand, P_Stand_lowest, Q_Stand_lowest, (fun x => if x = "NightError" then C_NightError else if x = "Unlike" then C_Unlike else if x = "Block" then C_Block else if x = "Stand" then C_Stand else 0)⟩ : Ad)) := ⟨f_Block_lines, _, ⟨fi_Block_lines, xf_Block_lines, k_Block_lines⟩, G_Block_lines, B_Block_lines⟩
  have O_framed : OkG l.prog w K mg base CX0 6 "framed" ps_framed (sp_framed K (⟨C_NightError, C_Unlike, C_Block, C_Stand, P_Stand_lowest, Q_Stand_lowest, (fun x => if x = "NightError" then C_NightError else if x = "Unlike" then C_Unlike else if x = "Block" then C_Block else if x = "Stand" then C_Stand else 0)⟩ : Ad)) f_framed _ := ⟨ok_framed T F_framed ME_Block_lines MC_Block_2_, PySem.W.mg_of X G a_framed, k_framed⟩
  have O_parted : OkG l.prog w K mg base CX0 1 "parted" ps_parted (sp_parted K (⟨C_NightError, C_Unlike, C_Block, C_Stand, P_Stand_lowest, Q_Stand_lowest, (fun x => if x = "NightError" then C_NightError else if x = "Unlike" then C_Unlike else if x = "Block" then C_Block else if x = "Stand" then C_Stand else 0)⟩ : Ad)) f_parted _ := ⟨ok_parted T F_parted , PySem.W.mg_of X G a_parted, k_parted⟩
  have O_words_of : OkG l.prog w K mg base CX0 1 "words_of" ps_words_of (sp_words_of K (⟨C_NightError, C_Unlike, C_Block, C_Stand, P_Stand_lowest, Q_Stand_lowest, (fun x => if x = "NightError" then C_NightError else if x = "Unlike" then C_Unlike else if x = "Block" then C_Block else if x = "Stand" then C_Stand else 0)⟩ : Ad)) f_words_of _ := ⟨ok_words_of T F_words_of , PySem.W.mg_of X G a_words_of, k_words_of⟩
  have O_filled : OkG l.prog w K mg base CX0 1 "filled" ps_filled (sp_filled K (⟨C_NightError, C_Unlike, C_Block, C_Stand, P_Stand_lowest, Q_Stand_lowest, (fun x => if x = "NightError" then C_NightError else if x = "Unlike" then C_Unlike else if x = "Block" then C_Block else if x = "Stand" then C_Stand else 0)⟩ : Ad)) f_filled _ := ⟨ok_filled T F_filled , PySem.W.mg_of X G a_filled, k_filled⟩
  have O_spread : OkG l.prog w K mg base CX0 1 "spread" ps_spread (sp_spread K (⟨C_NightError, C_Unlike, C_Block, C_Stand, P_Stand_lowest, Q_Stand_lowest, (fun x => if x = "NightError" then C_NightError else if x = "Unlike" then C_Unlike else if x = "Block" then C_Block else if x = "Stand" then C_Stand else 0)⟩ : Ad)) f_spread _ := ⟨ok_spread T F_spread , PySem.W.mg_of X G a_spread, k_spread⟩
  have O_paragraph_rows : OkG l.prog w K mg base CX0 2 "paragraph_rows" ps_paragraph_rows (sp_paragraph_rows K (⟨C_NightError, C_Unlike, C_Block, C_Stand, P_Stand_lowest, Q_Stand_lowest, (fun x => if x = "NightError" then C_NightError else if x = "Unlike" then C_Unlike else if x = "Block" then C_Block else if x = "Stand" then C_Stand else 0)⟩ : Ad)) f_paragraph_rows _ := ⟨ok_paragraph_rows T F_paragraph_rows O_filled B_filled O_parted B_parted O_spread B_spread, PySem.W.mg_of X G a_paragraph_rows, k_paragraph_rows⟩
  have O_set_rows : OkG l.prog w K mg base CX0 3 "set_rows" ps_set_rows (sp_set_rows K (⟨C_NightError, C_Unlike, C_Block, C_Stand, P_Stand_lowest, Q_Stand_lowest, (fun x => if x = "NightError" then C_NightError else if x = "Unlike" then C_Unlike else if x = "Block" then C_Block else if x = "Stand" then C_Stand else 0)⟩ : Ad)) f_set_rows _ := ⟨ok_set_rows T F_set_rows O_words_of B_words_of O_paragraph_rows B_paragraph_rows, PySem.W.mg_of X G a_set_rows, k_set_rows⟩
  have O_wide_of : OkG l.prog w K mg base CX0 1 "wide_of" ps_wide_of (sp_wide_of K (⟨C_NightError, C_Unlike, C_Block, C_Stand, P_Stand_lowest, Q_Stand_lowest, (fun x => if x = "NightError" then C_NightError else if x = "Unlike" then C_Unlike else if x = "Block" then C_Block else if x = "Stand" then C_Stand else 0)⟩ : Ad)) f_wide_of _ := ⟨ok_wide_of T F_wide_of , PySem.W.mg_of X G a_wide_of, k_wide_of⟩
  have O_ad_block : OkG l.prog w K mg base CX0 7 "ad_block" ps_ad_block (sp_ad_block K (⟨C_NightError, C_Unlike, C_Block, C_Stand, P_Stand_lowest, Q_Stand_lowest, (fun x => if x = "NightError" then C_NightError else if x = "Unlike" then C_Unlike else if x = "Block" then C_Block else if x = "Stand" then C_Stand else 0)⟩ : Ad)) f_ad_block _ := ⟨ok_ad_block T F_ad_block O_framed B_framed O_wide_of B_wide_of O_set_rows KB_set_rows_2_full MC_Block_2_, PySem.W.mg_of X G a_ad_block, k_ad_block⟩
  have G_StandD_initD : FnG l.prog w K mg base CX0 1 f_StandD_initD _ ps_StandD_initD (sp_StandD_initD K (⟨C_NightError, C_Unlike, C_Block, C_Stand, P_Stand_lowest, Q_Stand_lowest, (fun x => if x = "NightError" then C_NightError else if x = "Unlike" then C_Unlike else if x = "Block" then C_Block else if x = "Stand" then C_Stand else 0)⟩ : Ad)) := ok_StandD_initD T F_StandD_initD 
  have MC_Stand_2_ : MkC l.prog w K mg base CX0 1 C_Stand ps_StandD_initD (sp_StandD_initD K (⟨C_NightError, C_Unlike, C_Block, C_Stand, P_Stand_lowest, Q_Stand_lowest, (fun x => if x = "NightError" then C_NightError else if x = "Unlike" then C_Unlike else if x = "Block" then C_Block else if x = "Stand" then C_Stand else 0)⟩ : Ad)) 2 [] (pickL [] (.a 0 :: [.a 0, .a 1].map shIx)) := ⟨f_StandD_initD, _, ⟨xm_Stand, fi_StandD_initD, xf_StandD_initD, xk_Stand⟩, G_StandD_initD, Fun.kbp F_StandD_initD 3 _ (.a 0 :: [.a 0, .a 1].map shIx) fun _ _ _ _ _ _ us ws h1 h2 => match us, ws, h1, h2 with | [_, _, _], [], _, _ => rfl⟩
  have G_Stand_top_over : FnG l.prog w K mg base CX0 1 f_Stand_top_over _ ps_Stand_top_over (sp_Stand_top_over K (⟨C_NightError, C_Unlike, C_Block, C_Stand, P_Stand_lowest, Q_Stand_lowest, (fun x => if x = "NightError" then C_NightError else if x = "Unlike" then C_Unlike else if x = "Block" then C_Block else if x = "Stand" then C_Stand else 0)⟩ : Ad)) := ok_Stand_top_over T F_Stand_top_over 
  have ME_Stand_top_over : MeC l.prog w K mg base CX0 1 C_Stand "top_over" ps_Stand_top_over (sp_Stand_top_over K (⟨C_NightError, C_Unlike, C_Block, C_Stand, P_Stand_lowest, Q_Stand_lowest, (fun x => if x = "NightError" then C_NightError else if x = "Unlike" then C_Unlike else if x = "Block" then C_Block else if x = "Stand" then C_Stand else 0)⟩ : Ad)) := ⟨f_Stand_top_over, _, ⟨fi_Stand_top_over, xf_Stand_top_over, k_Stand_top_over⟩, G_Stand_top_over, B_Stand_top_over⟩
  have G_Stand_lowest : FnG l.prog w K mg base CX0 8 f_Stand_lowest _ ps_Stand_lowest (sp_Stand_lowest K (⟨C_NightError, C_Unlike, C_Block, C_Stand, P_Stand_lowest, Q_Stand_lowest, (fun x => if x = "NightError" then C_NightError else if x = "Unlike" then C_Unlike else if x = "Block" then C_Block else if x = "Stand" then C_Stand else 0)⟩ : Ad)) := ok_Stand_lowest T F_Stand_lowest ME_Stand_top_over TB_Stand_lowest HC_Stand_lowest
  have ME_Stand_lowest : MeC l.prog w K mg base CX0 8 C_Stand "lowest" ps_Stand_lowest (sp_Stand_lowest K (⟨C_NightError, C_Unlike, C_Block, C_Stand, P_Stand_lowest, Q_Stand_lowest, (fun x => if x = "NightError" then C_NightError else if x = "Unlike" then C_Unlike else if x = "Block" then C_Block else if x = "Stand" then C_Stand else 0)⟩ : Ad)) := ⟨f_Stand_lowest, _, ⟨fi_Stand_lowest, xf_Stand_lowest, k_Stand_lowest⟩, G_Stand_lowest, B_Stand_lowest⟩
  have G_Stand_put : FnG l.prog w K mg base CX0 9 f_Stand_put _ ps_Stand_put (sp_Stand_put K (⟨C_NightError, C_Unlike, C_Block, C_Stand, P_Stand_lowest, Q_Stand_lowest, (fun x => if x = "NightError" then C_NightError else if x = "Unlike" then C_Unlike else if x = "Block" then C_Block else if x = "Stand" then C_Stand else 0)⟩ : Ad)) := ok_Stand_put T F_Stand_put O_ad_block B_ad_block SP_BlockD_lenD ME_Stand_lowest ME_Stand_top_over
  have ME_Stand_put : MeC l.prog w K mg base CX0 9 C_Stand "put" ps_Stand_put (sp_Stand_put K (⟨C_NightError, C_Unlike, C_Block, C_Stand, P_Stand_lowest, Q_Stand_lowest, (fun x => if x = "NightError" then C_NightError else if x = "Unlike" then C_Unlike else if x = "Block" then C_Block else if x = "Stand" then C_Stand else 0)⟩ : Ad)) := ⟨f_Stand_put, _, ⟨fi_Stand_put, xf_Stand_put, k_Stand_put⟩, G_Stand_put, B_Stand_put⟩
  have O_stood : OkG l.prog w K mg base CX0 10 "stood" ps_stood (sp_stood K (⟨C_NightError, C_Unlike, C_Block, C_Stand, P_Stand_lowest, Q_Stand_lowest, (fun x => if x = "NightError" then C_NightError else if x = "Unlike" then C_Unlike else if x = "Block" then C_Block else if x = "Stand" then C_Stand else 0)⟩ : Ad)) f_stood _ := ⟨ok_stood T F_stood MC_Stand_2_ ME_Stand_put, PySem.W.mg_of X G a_stood, k_stood⟩
  have O_stand_ads : OkG l.prog w K mg base CX0 11 "stand_ads" ps_stand_ads (sp_stand_ads K (⟨C_NightError, C_Unlike, C_Block, C_Stand, P_Stand_lowest, Q_Stand_lowest, (fun x => if x = "NightError" then C_NightError else if x = "Unlike" then C_Unlike else if x = "Block" then C_Block else if x = "Stand" then C_Stand else 0)⟩ : Ad)) f_stand_ads _ := ⟨ok_stand_ads T F_stand_ads O_stood B_stood, PySem.W.mg_of X G a_stand_ads, k_stand_ads⟩
  have O__law_feed : OkG l.prog w K mg base CX0 1 "_law_feed" ps__law_feed (sp__law_feed K (⟨C_NightError, C_Unlike, C_Block, C_Stand, P_Stand_lowest, Q_Stand_lowest, (fun x => if x = "NightError" then C_NightError else if x = "Unlike" then C_Unlike else if x = "Block" then C_Block else if x = "Stand" then C_Stand else 0)⟩ : Ad)) f__law_feed _ := ⟨ok__law_feed T F__law_feed , PySem.W.mg_of X G a__law_feed, k__law_feed⟩
  have O__law_draw : OkG l.prog w K mg base CX0 1 "_law_draw" ps__law_draw (sp__law_draw K (⟨C_NightError, C_Unlike, C_Block, C_Stand, P_Stand_lowest, Q_Stand_lowest, (fun x => if x = "NightError" then C_NightError else if x = "Unlike" then C_Unlike else if x = "Block" then C_Block else if x = "Stand" then C_Stand else 0)⟩ : Ad)) f__law_draw _ := ⟨ok__law_draw T F__law_draw , PySem.W.mg_of X G a__law_draw, k__law_draw⟩
  have O__law_names : OkG l.prog w K mg base CX0 2 "_law_names" ps__law_names (sp__law_names K (⟨C_NightError, C_Unlike, C_Block, C_Stand, P_Stand_lowest, Q_Stand_lowest, (fun x => if x = "NightError" then C_NightError else if x = "Unlike" then C_Unlike else if x = "Block" then C_Block else if x = "Stand" then C_Stand else 0)⟩ : Ad)) f__law_names _ := ⟨ok__law_names T F__law_names O__law_draw B__law_draw, PySem.W.mg_of X G a__law_names, k__law_names⟩
  have O__law_word : OkG l.prog w K mg base CX0 2 "_law_word" ps__law_word (sp__law_word K (⟨C_NightError, C_Unlike, C_Block, C_Stand, P_Stand_lowest, Q_Stand_lowest, (fun x => if x = "NightError" then C_NightError else if x = "Unlike" then C_Unlike else if x = "Block" then C_Block else if x = "Stand" then C_Stand else 0)⟩ : Ad)) f__law_word _ := ⟨ok__law_word T F__law_word O__law_draw B__law_draw, PySem.W.mg_of X G a__law_word, k__law_word⟩
  have O__law_text : OkG l.prog w K mg base CX0 3 "_law_text" ps__law_text (sp__law_text K (⟨C_NightError, C_Unlike, C_Block, C_Stand, P_Stand_lowest, Q_Stand_lowest, (fun x => if x = "NightError" then C_NightError else if x = "Unlike" then C_Unlike else if x = "Block" then C_Block else if x = "Stand" then C_Stand else 0)⟩ : Ad)) f__law_text _ := ⟨ok__law_text T F__law_text O__law_draw B__law_draw O__law_word B__law_word, PySem.W.mg_of X G a__law_text, k__law_text⟩
  have OT__law_text : OkT l.prog w K mg base CX0 3 "_law_text" ps__law_text (sp__law_text K (⟨C_NightError, C_Unlike, C_Block, C_Stand, P_Stand_lowest, Q_Stand_lowest, (fun x => if x = "NightError" then C_NightError else if x = "Unlike" then C_Unlike else if x = "Block" then C_Block else if x = "Stand" then C_Stand else 0)⟩ : Ad)) f__law_text _ := ⟨okt__law_text T F__law_text O__law_draw B__law_draw O__law_word B__law_word, PySem.W.mg_of X G a__law_text, k__law_text⟩
  have O__law_form : OkG l.prog w K mg base CX0 2 "_law_form" ps__law_form (sp__law_form K (⟨C_NightError, C_Unlike, C_Block, C_Stand, P_Stand_lowest, Q_Stand_lowest, (fun x => if x = "NightError" then C_NightError else if x = "Unlike" then C_Unlike else if x = "Block" then C_Block else if x = "Stand" then C_Stand else 0)⟩ : Ad)) f__law_form _ := ⟨ok__law_form T F__law_form O__law_draw B__law_draw, PySem.W.mg_of X G a__law_form, k__law_form⟩
  have O__law_ad : OkG l.prog w K mg base CX0 4 "_law_ad" ps__law_ad (sp__law_ad K (⟨C_NightError, C_Unlike, C_Block, C_Stand, P_Stand_lowest, Q_Stand_lowest, (fun x => if x = "NightError" then C_NightError else if x = "Unlike" then C_Unlike else if x = "Block" then C_Block else if x = "Stand" then C_Stand else 0)⟩ : Ad)) f__law_ad _ := ⟨ok__law_ad T F__law_ad O__law_draw B__law_draw O__law_text B__law_text OT__law_text, PySem.W.mg_of X G a__law_ad, k__law_ad⟩
  have O__law_ads : OkG l.prog w K mg base CX0 5 "_law_ads" ps__law_ads (sp__law_ads K (⟨C_NightError, C_Unlike, C_Block, C_Stand, P_Stand_lowest, Q_Stand_lowest, (fun x => if x = "NightError" then C_NightError else if x = "Unlike" then C_Unlike else if x = "Block" then C_Block else if x = "Stand" then C_Stand else 0)⟩ : Ad)) f__law_ads _ := ⟨ok__law_ads T F__law_ads O__law_names B__law_names O__law_draw B__law_draw O__law_ad B__law_ad, PySem.W.mg_of X G a__law_ads, k__law_ads⟩
  have O__law_ad_rows : OkG l.prog w K mg base CX0 4 "_law_ad_rows" ps__law_ad_rows (sp__law_ad_rows K (⟨C_NightError, C_Unlike, C_Block, C_Stand, P_Stand_lowest, Q_Stand_lowest, (fun x => if x = "NightError" then C_NightError else if x = "Unlike" then C_Unlike else if x = "Block" then C_Block else if x = "Stand" then C_Stand else 0)⟩ : Ad)) f__law_ad_rows _ := ⟨ok__law_ad_rows T F__law_ad_rows O_set_rows BD_set_rows_3, PySem.W.mg_of X G a__law_ad_rows, k__law_ad_rows⟩
  have O__law_stood : OkG l.prog w K mg base CX0 5 "_law_stood" ps__law_stood (sp__law_stood K (⟨C_NightError, C_Unlike, C_Block, C_Stand, P_Stand_lowest, Q_Stand_lowest, (fun x => if x = "NightError" then C_NightError else if x = "Unlike" then C_Unlike else if x = "Block" then C_Block else if x = "Stand" then C_Stand else 0)⟩ : Ad)) f__law_stood _ := ⟨ok__law_stood T F__law_stood O__law_ad_rows B__law_ad_rows, PySem.W.mg_of X G a__law_stood, k__law_stood⟩
  exact ok_law T F_law O__law_feed B__law_feed O__law_form B__law_form O__law_ads B__law_ads O__law_draw B__law_draw O_stand_ads B_stand_ads BD_stand_ads_2 KB_stand_ads_0_keep_ads_form O__law_stood B__law_stood
theorem walk {l : PySem.W.OpenLaw} {q : Program} {loose : List Str} {XP : (Str → Option Value) → Heap → Prop} {YP : World → Heap → Prop} {d : DefRec} {K : Params → PySem.W.Frag} (hn : l.most = some 63) (hdf : d.params.defaults = [])
    (hY : ∀ (w : World) (h : Heap), YP w h → (K w.params).In h)
    (F : ∀ (w : World) (mg : Str → Option Value) (fa : Addr) (h : Heap), YP w h → (K w.params).In h → h.Ns mainGlobals mg → mg d.name = some (.ref fa) →
      ∃ (c : Ad) (fd : FuncData), (∀ (s : Shared) (u : Value), BindsTo s fd ⟨[u], []⟩ [("_law_script", u)]) ∧ (h.get? c.P_Stand_lowest = some { cls := .none, data := .fields #[] } ∧ PySem.W.codeHdIn (K w.params) c.Q_Stand_lowest c.P_Stand_lowest = true ∧ (K w.params).lookup c.P_Stand_lowest = none) ∧ ∀ base : Heap, (K w.params).In base → base.Ns mainGlobals mg → (∀ p ∈ ([(c.Q_Stand_lowest, c.P_Stand_lowest)] : List (Addr × Addr)), LamX.TabB base mg p.1 p.2) → FnG l.prog w (K w.params) mg base CX0 12 fa fd ["_law_script"] (sp_law (K w.params) c)) :
    PySem.W.WalkO q loose XP YP l.row.toRowW d [] (fun f vs => PySem.call f vs) :=
  walk_ofGY (n := 63) (k := 12) (x := "_law_script") (CX := fun _ => CX0) hn (by decide) hdf ⟨rfl, by decide, by decide⟩ hY
    (fun w mg fa h yy a b c => by
      obtain ⟨ad, fd, h1, ⟨t_Stand_lowest, d_Stand_lowest, n_Stand_lowest⟩, h2⟩ := F w mg fa h yy a b c
      exact ⟨fd, [(ad.Q_Stand_lowest, ad.P_Stand_lowest)], sp_law (K w.params) ad, (List.forall_mem_cons.mpr ⟨t_Stand_lowest, (fun _ h => nomatch h)⟩), (List.forall_mem_cons.mpr ⟨n_Stand_lowest, (fun _ h => nomatch h)⟩), (List.forall_mem_cons.mpr ⟨(PySem.W.codeHd_of_K a d_Stand_lowest), (fun _ h => nomatch h)⟩), h1,
        fun H a ns hl hT hS => ⟨⟨a, ns, rfl, hS, hl, fun _ => rfl⟩, (List.forall_mem_cons.mpr ⟨(hT _ (.head _)), (fun _ h => nomatch h)⟩)⟩, h2⟩) fun _ _ _ _ _ z => z
end Nk22
open PySem PySem.W PyProof.Rows in
set_option maxRecDepth 100000 in
set_option maxHeartbeats 0 in
theorem PySem.Challenge.cw_nightpaper_k22_advertisements_stood_holds : PySem.Challenge.rw_nightpaper_k22_advertisements_stood.Holds := by
  w_on; o_law; k_head; (case hw => w_witness2)
  k_fill
  refine Nk22.walk (l := PySem.Challenge.rw_nightpaper_k22_advertisements_stood) rfl rfl (fun w h Y => PySem.W.km_in_of Y) ?F
  case F =>
    intro w mg fa h Y KX G hmg
    refine' Nk22.all_mk KX G hmg ?a__wall ?a_framed ?a_parted ?a_words_of ?a_filled ?a_spread ?a_paragraph_rows ?a_set_rows ?a_wide_of ?a_ad_block ?a_stood ?a_stand_ads ?a__law_feed ?a__law_draw ?a__law_names ?a__law_word ?a__law_text ?a__law_form ?a__law_ad ?a__law_ads ?a__law_ad_rows ?a__law_stood ?a_law ?a_NightError ?a_Unlike ?a_Block ?a_Stand ?l__wall ?c__wall ?k__wall ?l_framed ?c_framed ?k_framed ?l_parted ?c_parted ?k_parted ?l_words_of ?c_words_of ?k_words_of ?l_filled ?c_filled ?k_filled ?l_spread ?c_spread ?k_spread ?l_paragraph_rows ?c_paragraph_rows ?k_paragraph_rows ?l_set_rows ?c_set_rows ?k_set_rows ?d1_set_rows ?d2_set_rows ?d3_set_rows ?d4_set_rows ?l_wide_of ?c_wide_of ?k_wide_of ?l_ad_block ?c_ad_block ?k_ad_block ?l_stood ?c_stood ?k_stood ?l_stand_ads ?c_stand_ads ?k_stand_ads ?d1_stand_ads ?d2_stand_ads ?d3_stand_ads ?d4_stand_ads ?l__law_feed ?c__law_feed ?k__law_feed ?l__law_draw ?c__law_draw ?k__law_draw ?l__law_names ?c__law_names ?k__law_names ?l__law_word ?c__law_word ?k__law_word ?l__law_text ?c__law_text ?k__law_text ?l__law_form ?c__law_form ?k__law_form ?l__law_ad ?c__law_ad ?k__law_ad ?l__law_ads ?c__law_ads ?k__law_ads ?l__law_ad_rows ?c__law_ad_rows ?k__law_ad_rows ?l__law_stood ?c__law_stood ?k__law_stood ?l_law ?c_law ?k_law ?fi_UnlikeD_initD ?ft_UnlikeD_initD ?l_UnlikeD_initD ?c_UnlikeD_initD ?k_UnlikeD_initD ?fi_BlockD_initD ?xf_BlockD_initD ?ft_BlockD_initD ?l_BlockD_initD ?c_BlockD_initD ?k_BlockD_initD ?fi_BlockD_lenD ?xf_BlockD_lenD ?ft_BlockD_lenD ?l_BlockD_lenD ?c_BlockD_lenD ?k_BlockD_lenD ?fi_Block_lines ?xf_Block_lines ?ft_Block_lines ?l_Block_lines ?c_Block_lines ?k_Block_lines ?fi_StandD_initD ?xf_StandD_initD ?ft_StandD_initD ?l_StandD_initD ?c_StandD_initD ?k_StandD_initD ?fi_Stand_top_over ?xf_Stand_top_over ?ft_Stand_top_over ?l_Stand_top_over ?c_Stand_top_over ?k_Stand_top_over ?fi_Stand_lowest ?xf_Stand_lowest ?ft_Stand_lowest ?l_Stand_lowest ?c_Stand_lowest ?k_Stand_lowest ?fi_Stand_put ?xf_Stand_put ?ft_Stand_put ?l_Stand_put ?c_Stand_put ?k_Stand_put ?z_divmod ?z_enumerate ?z_int ?z_isinstance ?z_len ?z_list ?z_max ?z_min ?z_range ?z_repr ?z_sum ?g_BETWEEN ?g_EDGES ?bs_NightError ?br_NightError ?bi_NightError ?xl_Unlike ?xr_Unlike ?xs_Unlike ?xe_Unlike ?xt_Unlike ?xk_Unlike ?eg_Unlike ?ek_Unlike ?ed_Unlike ?ea_Unlike ?en_Unlike ?et_Unlike ?em_Unlike ?no_Unlike_one ?no_Unlike_other ?cg_Block ?ch_Block ?cp_Block ?xs_Block ?xk_Block ?xm_Block ?no_Block_kept ?no_Block_wide ?cg_Stand ?ch_Stand ?cp_Stand ?xs_Stand ?xk_Stand ?xm_Stand ?no_Stand_form ?no_Stand_keep ?no_Stand_tops ?no_Stand_spots ?no_Stand_blocks ?no_Stand_unstood ?hc_Stand_lowest ?tq_Stand_lowest ?td_Stand_lowest ?tv_Stand_lowest ?nt_Stand_lowest ?hh_Stand_lowest ?ht_Stand_lowest
    (case a__wall => k_is)
    (case a_framed => k_is)
    (case a_parted => k_is)
    (case a_words_of => k_is)
    (case a_filled => k_is)
    (case a_spread => k_is)
    (case a_paragraph_rows => k_is)
    (case a_set_rows => k_is)
    (case a_wide_of => k_is)
    (case a_ad_block => k_is)
    (case a_stood => k_is)
    (case a_stand_ads => k_is)
    (case a__law_feed => k_is)
    (case a__law_draw => k_is)
    (case a__law_names => k_is)
    (case a__law_word => k_is)
    (case a__law_text => k_is)
    (case a__law_form => k_is)
    (case a__law_ad => k_is)
    (case a__law_ads => k_is)
    (case a__law_ad_rows => k_is)
    (case a__law_stood => k_is)
    (case a_law => k_is)
    (case a_NightError => k_is)
    (case a_Unlike => k_is)
    (case a_Block => k_is)
    (case a_Stand => k_is)
    (case l__wall => k_is)
    (case c__wall => k_is)
    (case k__wall => k_is)
    (case l_framed => k_is)
    (case c_framed => k_is)
    (case k_framed => k_is)
    (case l_parted => k_is)
    (case c_parted => k_is)
    (case k_parted => k_is)
    (case l_words_of => k_is)
    (case c_words_of => k_is)
    (case k_words_of => k_is)
    (case l_filled => k_is)
    (case c_filled => k_is)
    (case k_filled => k_is)
    (case l_spread => k_is)
    (case c_spread => k_is)
    (case k_spread => k_is)
    (case l_paragraph_rows => k_is)
    (case c_paragraph_rows => k_is)
    (case k_paragraph_rows => k_is)
    (case l_set_rows => k_is)
    (case c_set_rows => k_is)
    (case k_set_rows => k_is)
    (case d1_set_rows => rfl)
    (case d2_set_rows => k_is)
    (case d3_set_rows => rfl)
    (case d4_set_rows => exact .cons rfl (.cons ⟨_, rfl⟩ (.nil)))
    (case l_wide_of => k_is)
    (case c_wide_of => k_is)
    (case k_wide_of => k_is)
    (case l_ad_block => k_is)
    (case c_ad_block => k_is)
    (case k_ad_block => k_is)
    (case l_stood => k_is)
    (case c_stood => k_is)
    (case k_stood => k_is)
    (case l_stand_ads => k_is)
    (case c_stand_ads => k_is)
    (case k_stand_ads => k_is)
    (case d1_stand_ads => rfl)
    (case d2_stand_ads => k_is)
    (case d3_stand_ads => rfl)
    (case d4_stand_ads => exact .cons ⟨_, rfl⟩ (.nil))
    (case l__law_feed => k_is)
    (case c__law_feed => k_is)
    (case k__law_feed => k_is)
    (case l__law_draw => k_is)
    (case c__law_draw => k_is)
    (case k__law_draw => k_is)
    (case l__law_names => k_is)
    (case c__law_names => k_is)
    (case k__law_names => k_is)
    (case l__law_word => k_is)
    (case c__law_word => k_is)
    (case k__law_word => k_is)
    (case l__law_text => k_is)
    (case c__law_text => k_is)
    (case k__law_text => k_is)
    (case l__law_form => k_is)
    (case c__law_form => k_is)
    (case k__law_form => k_is)
    (case l__law_ad => k_is)
    (case c__law_ad => k_is)
    (case k__law_ad => k_is)
    (case l__law_ads => k_is)
    (case c__law_ads => k_is)
    (case k__law_ads => k_is)
    (case l__law_ad_rows => k_is)
    (case c__law_ad_rows => k_is)
    (case k__law_ad_rows => k_is)
    (case l__law_stood => k_is)
    (case c__law_stood => k_is)
    (case k__law_stood => k_is)
    (case l_law => k_is)
    (case c_law => k_is)
    (case k_law => k_is)
    (case fi_UnlikeD_initD => k_is)
    (case ft_UnlikeD_initD => k_is)
    (case l_UnlikeD_initD => k_is)
    (case c_UnlikeD_initD => k_is)
    (case k_UnlikeD_initD => k_is)
    (case fi_BlockD_initD => k_is)
    (case xf_BlockD_initD => k_is)
    (case ft_BlockD_initD => k_is)
    (case l_BlockD_initD => k_is)
    (case c_BlockD_initD => k_is)
    (case k_BlockD_initD => k_is)
    (case fi_BlockD_lenD => k_is)
    (case xf_BlockD_lenD => k_is)
    (case ft_BlockD_lenD => k_is)
    (case l_BlockD_lenD => k_is)
    (case c_BlockD_lenD => k_is)
    (case k_BlockD_lenD => k_is)
    (case fi_Block_lines => k_is)
    (case xf_Block_lines => k_is)
    (case ft_Block_lines => k_is)
    (case l_Block_lines => k_is)
    (case c_Block_lines => k_is)
    (case k_Block_lines => k_is)
    (case fi_StandD_initD => k_is)
    (case xf_StandD_initD => k_is)
    (case ft_StandD_initD => k_is)
    (case l_StandD_initD => k_is)
    (case c_StandD_initD => k_is)
    (case k_StandD_initD => k_is)
    (case fi_Stand_top_over => k_is)
    (case xf_Stand_top_over => k_is)
    (case ft_Stand_top_over => k_is)
    (case l_Stand_top_over => k_is)
    (case c_Stand_top_over => k_is)
    (case k_Stand_top_over => k_is)
    (case fi_Stand_lowest => k_is)
    (case xf_Stand_lowest => k_is)
    (case ft_Stand_lowest => k_is)
    (case l_Stand_lowest => k_is)
    (case c_Stand_lowest => k_is)
    (case k_Stand_lowest => k_is)
    (case fi_Stand_put => k_is)
    (case xf_Stand_put => k_is)
    (case ft_Stand_put => k_is)
    (case l_Stand_put => k_is)
    (case c_Stand_put => k_is)
    (case k_Stand_put => k_is)
    (case z_divmod => k_is)
    (case z_enumerate => k_is)
    (case z_int => k_is)
    (case z_isinstance => k_is)
    (case z_len => k_is)
    (case z_list => k_is)
    (case z_max => k_is)
    (case z_min => k_is)
    (case z_range => k_is)
    (case z_repr => k_is)
    (case z_sum => k_is)
    (case g_BETWEEN => k_is)
    (case g_EDGES => k_is)
    (case bs_NightError => k_is)
    (case br_NightError => k_is)
    (case bi_NightError => k_is)
    (case xl_Unlike => k_is)
    (case xr_Unlike => first | rfl | decide +kernel | k_is)
    (case xs_Unlike => k_is)
    (case xe_Unlike => k_is)
    (case xt_Unlike => k_is)
    (case xk_Unlike => k_is)
    (case eg_Unlike => k_is)
    (case ek_Unlike => k_is)
    (case ed_Unlike => k_is)
    (case ea_Unlike => k_is)
    (case en_Unlike => k_is)
    (case et_Unlike => k_is)
    (case em_Unlike => k_is)
    (case no_Unlike_one => k_is)
    (case no_Unlike_other => k_is)
    (case cg_Block => k_is)
    (case ch_Block => k_is)
    (case cp_Block => k_is)
    (case xs_Block => k_is)
    (case xk_Block => k_is)
    (case xm_Block => k_is)
    (case no_Block_kept => k_is)
    (case no_Block_wide => k_is)
    (case cg_Stand => k_is)
    (case ch_Stand => k_is)
    (case cp_Stand => k_is)
    (case xs_Stand => k_is)
    (case xk_Stand => k_is)
    (case xm_Stand => k_is)
    (case no_Stand_form => k_is)
    (case no_Stand_keep => k_is)
    (case no_Stand_tops => k_is)
    (case no_Stand_spots => k_is)
    (case no_Stand_blocks => k_is)
    (case no_Stand_unstood => k_is)
    (case hc_Stand_lowest => rfl)
    (case tq_Stand_lowest => k_is)
    (case td_Stand_lowest => rfl)
    (case tv_Stand_lowest => rfl)
    (case nt_Stand_lowest => kernel_rfl)
    (case hh_Stand_lowest => kernel_rfl)
    (case ht_Stand_lowest => exact PySem.W.km_tabs_of Y _ (by k_mem))
#print axioms PySem.Challenge.cw_nightpaper_k22_advertisements_stood_holds
