import PyProof.Rows.All
import Wide.All
import OpenK.AllK
import Wide.FinOn
import HandS.ForMost
import HandS.IsInst
import HandS.Defaults
import HandS.FStr
import HandS.StrMore
import HandS.Flow
import HandS.More
import HandS.Walk
import HandS.Style
import HandS.ForExc
import HandS.ExcInit
import HandS.ExcIs
import HandS.ExcField
import HandS.WordsExc
import KE.KExcIs
import HandS.IntHex
import HandS.Codes
import HandS.Lambda
import HandS.TupAny
import HandS.SortInts
import HandS.Deep
import HandS.Conv
import PyProof.Rows.StrSplitMax
import HandS.Replace
import HandS.ReplaceLit
import HandS.MakeKw
import KE.GoesEnumKw
import HandS.Flt
import KE.KExcInit
import KE.KTryMore
import PyProof.CallStr
import PyProof.CallType
import PyProof.InstEq
import HandS.OwnEq
import PyProof.Conv_bool
import PyProof.ListTruth
import HandS.Small
import HandS.TupLe
import PyProof.ListRange
import HandS.Records
import KE.KIntText
import KE.IntTextLaws
import PyProof.Rows.StrSplit
import KE.DataMinKey
import KE.DataCmp
import HandS.FromBytesMap
import HandS.SortKw
import HandS.Zip
import KE.DatumOrd
import KE.SortKeyHeap
import HandS.EndTab
import HandS.Strs
import HandS.ExcOwn
import HandS.Dict
import HandS.RaiseMore
import HandS.CallLocal
import HandS.ReplaceDef
import HandS.TryOnly
import PyProof.SumWalkG
import KE.SortData
import HandS.TupMul
import HandS.SetKeys
import HandS.Iter
import PySem.Challenge.RW_nightpaper_k64_prices_and_free_copies
set_option Elab.async false
set_option linter.all false
set_option maxRecDepth 100000
set_option maxHeartbeats 4000000
namespace Np
open PySem L2
section
variable {X : Cx} {k n : Nat} {f : Addr} {fd : FuncData} {ps ks : List Str} {sp : Sp} {x : Str} {p pos : Pos} {e : Expr} {es : List Expr} {kws : List Keyword} {t tk : TA} {v : V}
def KB (K : PySem.W.Frag) (fd : FuncData) (ps : List Str) (n : Nat) (ks : List Str) (gV : List V → List V → List V) : Prop := ∃ g, KBn K fd ps n ks g gV
end
theorem Fun.kb {K : PySem.W.Frag} {x qual : Str} {st : Stmt} {f : Addr} {fd : FuncData} {ps : List Str} (F : Fun K x qual st f fd) (n : Nat) (ks : List Str) (g : {α : Type} → List α → List α → List α)
    (hrel : ∀ {vs zs : List V} {us ws : List Value}, Vals vs us → Vals zs ws → Vals (g vs zs) (g us ws))
    (h : ∀ (kV doc pm : Value) (an : Option Addr) (cdv ct : Value) (us ws : List Value), us.length = n → ws.length = ks.length → bindArgs (PySem.W.fnOf x qual (defArgs st) (defBody st) (defScope st) .none kV doc pm an cdv ct) ⟨us, ks.zip ws⟩ = pure (ps.zip (g us ws))) : KB K fd ps n ks g := by
  obtain ⟨oc, od, kV, doc, pm, an, cdv, ct, osl, rfl, lk, hcd⟩ := F.ex
  exact ⟨fun us ws => g us ws, ⟨fun s us ws X l1 l2 => .of_eq (h kV doc pm an cdv ct us ws l1 l2), fun r1 r2 => hrel r1 r2⟩⟩
theorem same_new {H : Hp} {p : Addr} {o : HO} (h : H p = none) : Same H (upd H p o) := fun a u e => by
  rw [upd_ne (ne_of_none e h)]
  exact e
theorem same_mut {G H : Hp} {p : Addr} {o : HO} (e : Same G H) (h : G p = none) : Same G (upd H p o) := fun a u ha => by
  rw [upd_ne (ne_of_none ha h)]
  exact e a u ha
theorem same_both {G H : Hp} {p : Addr} {o : HO} (e : Same G H) : Same (upd G p o) (upd H p o) := fun a u ha => by
  by_cases hp : a = p
  · subst hp
    rw [upd_same] at ha
    rw [upd_same]
    exact ha
  · rw [upd_ne hp] at ha
    rw [upd_ne hp]
    exact e a u ha
end Np
namespace Np
open PySem L2
/-- data that can be held beside others: k the depth -/
def Fine (k : Nat) (d : PyData) : Prop := PyData.canLay0 d = true ∧ PyData.depth d ≤ k
theorem canLayAll_of : ∀ {ds : List PyData}, (∀ d ∈ ds, PyData.canLay0 d = true) → PyData.canLayAll0 ds = true
  | [], _ => rfl
  | d :: ds, h => by
    show (PyData.canLay0 d && PyData.canLayAll0 ds) = true
    rw [h d List.mem_cons_self, canLayAll_of fun x hx => h x (List.mem_cons_of_mem _ hx)] <;> rfl
theorem depthAll_of {k : Nat} : ∀ {ds : List PyData}, (∀ d ∈ ds, PyData.depth d ≤ k) → PyData.depthAll ds ≤ k
  | [], _ => Nat.zero_le _
  | d :: ds, h => by
    show max (PyData.depth d) (PyData.depthAll ds) ≤ k
    exact Nat.max_le.mpr ⟨h d List.mem_cons_self, depthAll_of fun x hx => h x (List.mem_cons_of_mem _ hx)⟩
theorem Fine.list {k : Nat} {ds : List PyData} (h : ∀ d ∈ ds, Fine k d) : Fine (k + 1) (.list ds) := ⟨canLayAll_of fun d hd => (h d hd).1, Nat.succ_le_succ (depthAll_of fun d hd => (h d hd).2)⟩
theorem Fine.tuple {k : Nat} {ds : List PyData} (h : ∀ d ∈ ds, Fine k d) : Fine (k + 1) (.tuple ds) := ⟨canLayAll_of fun d hd => (h d hd).1, Nat.succ_le_succ (depthAll_of fun d hd => (h d hd).2)⟩
theorem Fine.int (i : Int) : Fine 0 (.int i) := ⟨rfl, Nat.le_refl _⟩
theorem Fine.bool (b : Bool) : Fine 0 (.bool b) := ⟨rfl, Nat.le_refl _⟩
theorem Fine.none : Fine 0 .none := ⟨rfl, Nat.le_refl _⟩
theorem Fine.str {x : Str} (h : PyData.strOk x = true) : Fine 0 (.str x) := ⟨h, Nat.le_refl _⟩
theorem Fine.mono {j k : Nat} {d : PyData} (h : Fine j d) (hk : j ≤ k) : Fine k d := ⟨h.1, Nat.le_trans h.2 hk⟩
theorem Fine.shaped {k : Nat} {d : PyData} (h : Fine k d) (hk : k ≤ 64 := by decide) : SeqAt.shaped d = true := by
  unfold SeqAt.shaped
  rw [h.1, decide_eq_true (Nat.le_trans h.2 hk)] <;> rfl
theorem fine_ints (ns : List Int) : Fine 1 (.list (ns.map PyData.int)) := Fine.list fun d hd => by
  obtain ⟨i, _, rfl⟩ := List.mem_map.mp hd
  exact Fine.int i
theorem shaped_ints (ns : List Int) : SeqAt.shaped (.list (ns.map PyData.int)) = true := (fine_ints ns).shaped
theorem eqv_nil (ds : List PyData) : PyData.eqv (.list ds) (.list []) = ds.isEmpty := by
  cases ds <;> rfl
end Np
namespace Np
open PySem L2
/-- a thing of a built-in kind -/
def Th (H : Hp) (v : V) : Prop := v = .non ∨ (∃ b, v = .bl b) ∨ (∃ i, v = .int i) ∨ (∃ x, v = .str x) ∨ (∃ a xs, v = .ref a ∧ H a = some (.lst xs)) ∨ (∃ a xs, v = .ref a ∧ H a = some (.tup xs)) ∨ (∃ a kvs, v = .ref a ∧ H a = some (.dK kvs))
theorem Th.mono {G H : Hp} {v : V} (s : Same G H) (h : Th G v) : Th H v := by
  rcases h with h | h | h | h | ⟨a, xs, e, h⟩ | ⟨a, xs, e, h⟩ | ⟨a, xs, e, h⟩
  · exact .inl h
  · exact .inr (.inl h)
  · exact .inr (.inr (.inl h))
  · exact .inr (.inr (.inr (.inl h)))
  · exact .inr (.inr (.inr (.inr (.inl ⟨a, xs, e, s _ _ h⟩))))
  · exact .inr (.inr (.inr (.inr (.inr (.inl ⟨a, xs, e, s _ _ h⟩)))))
  · exact .inr (.inr (.inr (.inr (.inr (.inr ⟨a, xs, e, s _ _ h⟩)))))
theorem Th.bl {H : Hp} (b : Bool) : Th H (.bl b) := .inr (.inl ⟨b, rfl⟩)
theorem Th.int {H : Hp} (i : Int) : Th H (.int i) := .inr (.inr (.inl ⟨i, rfl⟩))
theorem Th.str {H : Hp} (x : Str) : Th H (.str x) := .inr (.inr (.inr (.inl ⟨x, rfl⟩)))
theorem Th.lst {H : Hp} {a : Addr} {xs : List V} (h : H a = some (.lst xs)) : Th H (.ref a) := .inr (.inr (.inr (.inr (.inl ⟨a, xs, rfl, h⟩))))
theorem Th.tup {H : Hp} {a : Addr} {xs : List V} (h : H a = some (.tup xs)) : Th H (.ref a) := .inr (.inr (.inr (.inr (.inr (.inl ⟨a, xs, rfl, h⟩)))))
theorem Th.dK {H : Hp} {a : Addr} {xs : List (Key × V)} (h : H a = some (.dK xs)) : Th H (.ref a) := .inr (.inr (.inr (.inr (.inr (.inr ⟨a, xs, rfl, h⟩)))))
end Np
namespace Np
open PySem L2
section
variable {X : Cx} (K : PySem.W.Frag)
theorem op_neDK (hu : X.A.units + 64 < cLine) (h : X.K = K := by rfl) : OpR X (compareOp .NotEq) (rNeD K) := by subst h; exact op_neD hu
theorem ix_listK (h : X.K = K := by rfl) : IxR X (rIxL K) := by subst h; exact ix_list
theorem ix_tupK (h : X.K = K := by rfl) : IxR X (rIxT K) := by subst h; exact ix_tup
theorem sl_listK (h : X.K = K := by rfl) : SlR X (rSlL K) := by subst h; exact sl_list
def rLenK : List V → Hp → VK → Prop := fun xs H Q => ∃ p ys, xs = [.ref p] ∧ (SqL K H p ys ∨ SqT K H p ys) ∧ Q (.int ys.length) H
theorem call_lenK (h : X.K = K := by rfl) : CallR X (.builtin "len") (rLenK K) := by subst h; exact call_len_seq
def rListK : List V → Hp → VK → Prop := fun xs H Q => ∃ p ys, xs = [.ref p] ∧ (SqL K H p ys ∨ SqT K H p ys) ∧ ∀ l, H l = none → Q (.ref l) (upd H l (.lst ys))
theorem call_listK (h : X.K = K := by rfl) : CallR X (.type "list") (rListK K) := by subst h; exact call_list_of
theorem cr_sumK (hc : X.calm = true) (h : X.K = K := by rfl) : CallR X (.builtin "sum") (rSum K) := by subst h; exact cr_sum hc
theorem pi_listK {tg l : Expr} {tl : TE} (hl : PE X l tl) (h : X.K = K := by rfl) : PI X tg l (iList K tl) := by subst h; exact pi_list hl
theorem pg_tupK {es : List Expr} {k n : Nat} {t : TGs} {pos : Pos} (hc : X.calm = true) (h' : PGs X es t)
    (hn : (assignEach es X.env).length = n := by rfl) (hst : (assignEach es X.env).findIdx? (·.1) = none := by rfl) (h : X.K = K := by rfl) : PG X (.Tuple es k pos) (gTup K n t) := by subst h; exact pg_tup hc h' hn hst
def rJoinK : V → List V → Hp → VK → Prop := fun x xs H Q => ∃ a p, ∃ ys : List Str, x = .str a ∧ xs = [.ref p] ∧ (SqL K H p (ys.map V.str) ∨ SqT K H p (ys.map V.str)) ∧
      (ys.map (·.length)).sum + ys.length * a.length ≤ 16777216 ∧ Q (.str (Txt.join a ys)) H
theorem pe_joinK {o e : Expr} {to te : TE} {apos pos : Pos} (ho : PE X o to) (he : PE X e te) (hs : starEach [e] X.env = [(false, eval e X.env)] := by rfl) (hbase : attributeBase o "join" X.env (eval o X.env) = eval o X.env := by rfl) (hline : (apos.endLine == pos.line) = true := by rfl) (h : X.K = K := by rfl) :
    PE X (.Call (.Attribute o "join" apos) [e] [] pos) (tM1 (rJoinK K) to te) := by subst h; exact pe_join ho he hs hbase hline
theorem pe_bmK {T : String} {name : Str} {id : String} {r : V → List V → Hp → VK → Prop} {o e : Expr} {es : List Expr} {to : TE} {t : TA} {apos cpos : Pos} (pa : PlainAttrs T) (slot : Slot T name id) (hty : typeOf (.builtin id) = pure (.type "method_descriptor")) (hm : MtR X id r) (ho : PE X o to) (ha : PA X (e :: es) t)
    (hbase : attributeBase o name X.env (eval o X.env) = eval o X.env := by rfl)
    (hfew : ((backTo cpos (starEach (e :: es) X.env)).all (fun x => !x.1) && (backToKw cpos (keywordEach [] X.env)).all (fun x => x.1.isSome)
      && decide ((e :: es).length + ([] : List Keyword).length + (if ([] : List Keyword).isEmpty then 0 else 1) < 30)) = true := by rfl)
    (hline : (apos.endLine == cpos.line) = true := by rfl) (hs : starEach (e :: es) X.env = (false, eval e X.env) :: starEach es X.env := by rfl) (hplain : (backTo cpos (starEach es X.env)).any (·.1) = false := by rfl) (h : X.K = K := by rfl) :
    PE X (.Call (.Attribute o name apos) (e :: es) [] cpos) (tBM K T r to t) := by subst h; exact pe_bm pa slot hty hm ho ha hbase hfew hline hs hplain
end
end Np
namespace Np
open PySem L2
structure Tx (n : Nat) (x : Str) : Prop where
  len : x.length ≤ n
  ok : ∀ c ∈ x.cps.toList, c < 1114112
theorem Tx.strOk {n : Nat} {x : Str} (h : Tx n x) : PyData.strOk x = true := by
  unfold PyData.strOk
  rw [← Array.all_toList]
  exact List.all_eq_true.mpr fun c hc => decide_eq_true (h.ok c hc)
theorem Tx.mono {n m : Nat} {x : Str} (h : Tx n x) (hm : n ≤ m) : Tx m x := ⟨Nat.le_trans h.len hm, h.ok⟩
theorem Tx.sign {c : Nat} (h : c < 1114112) : Tx 1 (⟨#[c]⟩ : Str) := ⟨Nat.le_refl _, fun d hd => by
  have e : d = c := List.mem_singleton.mp hd
  rw [e]
  exact h⟩
theorem atI_mem {α : Type} {xs : List α} {i : Int} {v : α} (h : atI xs i = some v) : v ∈ xs := by
  obtain ⟨j, _, hj, _⟩ := atI_get h
  exact List.mem_of_getElem? hj
theorem Tx.at {n : Nat} {x : Str} {i : Int} {c : Nat} (h : Tx n x) (e : atI x.cps.toList i = some c) : Tx 1 (⟨#[c]⟩ : Str) := Tx.sign (h.ok c (atI_mem e))
theorem ofString_ok (s : String) : ∀ c ∈ (Str.ofString s).cps.toList, c < 1114112 := fun c hc => by
  rw [Str.ofString_eq_toList] at hc
  obtain ⟨d, _, rfl⟩ := List.mem_map.mp hc
  have h := d.valid
  have e : d.toNat = d.val.toNat := rfl
  rcases h with h | ⟨_, h⟩ <;> omega
theorem ofString_len (s : String) : (Str.ofString s).length = s.length := by
  rw [Str.ofString_eq_toList]
  show (List.toArray _).size = _
  rw [List.size_toArray, List.length_map, String.length_toList]
theorem Tx.num {i : Int} {k : Nat} (hk : 0 < k) (h : i.natAbs < 10 ^ k) : Tx (k + 1) (Str.ofString (toString i)) :=
  ⟨by rw [ofString_len]; exact int_text_length_le10 hk h, ofString_ok _⟩
end Np
namespace Np
open PySem L2
def But (t : Addr) (H H' : Hp) : Prop := ∀ b o, b ≠ t → H b = some o → H' b = some o
theorem But.refl {t : Addr} {H : Hp} : But t H H := fun _ _ _ h => h
theorem But.trans {t : Addr} {H H1 H2 : Hp} (a : But t H H1) (b : But t H1 H2) : But t H H2 := fun c o n h => b c o n (a c o n h)
theorem But.of {t : Addr} {H H' : Hp} (s : Same H H') : But t H H' := fun b o _ h => s b o h
theorem But.mut {t : Addr} {H : Hp} {o : HO} : But t H (upd H t o) := fun b u n h => by rw [upd_ne n]; exact h
theorem But.new {t p : Addr} {H : Hp} {o : HO} (n : H p = none) : But t H (upd H p o) := But.of (same_new n)
/-- a tape at tp, over what stays (G): its cells, how many were begun (at most n), what is left of a great one -/
def Tape (K : PySem.W.Frag) (G H : Hp) (tp : Addr) (n : Nat) : Prop := Same G H ∧ G tp = none ∧ ∃ (c : Addr) (ns : List Int) (at' left : Int),
  SqL K G c (ns.map V.int) ∧ H tp = some (.lst [.ref c, .int at', .int left]) ∧ 0 ≤ at' ∧ at' ≤ n ∧ 0 ≤ left
section
variable {K : PySem.W.Frag} {G H H' : Hp} {tp p : Addr} {n m : Nat} {o : HO}
theorem Tape.step {c : Addr} {ns : List Int} {a b : Int} (s : Same G H) (g : G tp = none) (hc : SqL K G c (ns.map V.int)) (h0 : 0 ≤ a) (h1 : a ≤ n) (h2 : 0 ≤ b) :
    Tape K G (upd H tp (.lst [.ref c, .int a, .int b])) tp n := ⟨same_mut s g, g, c, ns, a, b, hc, upd_same, h0, h1, h2⟩
theorem Tape.at (t : Tape K G H tp n) : ∃ xs, H tp = some (.lst xs) := by
  obtain ⟨_, _, c, ns, a, b, _, h, _⟩ := t
  exact ⟨_, h⟩
theorem Tape.ex (t : Tape K G H tp n) : ∃ u, H tp = some u := by
  obtain ⟨xs, h⟩ := t.at
  exact ⟨_, h⟩
theorem Tape.ne (t : Tape K G H tp n) (h : H p = none) : p ≠ tp := by
  obtain ⟨xs, e⟩ := t.at
  exact fun z => by rw [z, e] at h; cases h
theorem Tape.new (t : Tape K G H tp n) (h : H p = none) : Tape K G (upd H p o) tp n := by
  have e := t.ne h
  obtain ⟨s, g, c, ns, a, b, hc, hT, r⟩ := t
  exact ⟨s.trans (same_new h), g, c, ns, a, b, hc, by rw [upd_ne e.symm]; exact hT, r⟩
/-- another object, that does not stay, changes -/
theorem Tape.mut (t : Tape K G H tp n) (g' : G p = none) (e : p ≠ tp) : Tape K G (upd H p o) tp n := by
  obtain ⟨s, g, c, ns, a, b, hc, hT, r⟩ := t
  exact ⟨same_mut s g', g, c, ns, a, b, hc, by rw [upd_ne e.symm]; exact hT, r⟩
/-- an object stays from now on -/
theorem Tape.keep (t : Tape K G H tp n) (h : H p = some o) (e : p ≠ tp) (g' : G p = none) : Tape K (upd G p o) H tp n := by
  obtain ⟨s, g, c, ns, a, b, hc, hT, r⟩ := t
  refine ⟨fun q u hq => ?_, by rw [upd_ne e.symm]; exact g, c, ns, a, b, (same_new g').seq hc, hT, r⟩
  by_cases z : q = p
  · subst z
    rw [upd_same] at hq
    rw [← hq]
    exact h
  · rw [upd_ne z] at hq
    exact s q u hq
/-- a new object that stays -/
theorem Tape.newK (t : Tape K G H tp n) (h : H p = none) : Tape K (upd G p o) (upd H p o) tp n :=
  (t.new h).keep upd_same (t.ne h) (t.1.free h)
theorem Tape.mono (t : Tape K G H tp n) (h : n ≤ m) : Tape K G H tp m := by
  obtain ⟨s, g, c, ns, a, b, hc, hT, h0, h1, h2⟩ := t
  exact ⟨s, g, c, ns, a, b, hc, hT, h0, by omega, h2⟩
theorem Tape.free (t : Tape K G H tp n) (h : H p = none) : G p = none := t.1.free h
end
end Np
namespace Np
open PySem L2
theorem Tx.empty : Tx 0 (⟨#[]⟩ : Str) := ⟨Nat.le_refl _, fun c hc => by cases hc⟩
end Np
namespace Np
open PySem L2
theorem Tape.grow {K : PySem.W.Frag} {G H : Hp} {tp p : Addr} {n : Nat} {o : HO} (t : Tape K G H tp n) (h : H p = none) : ∃ G1, Same G G1 ∧ G1 p = some o ∧ Tape K G1 (upd H p o) tp n :=
  ⟨upd G p o, same_new (t.free h), upd_same, t.newK h⟩
end Np
namespace Np
open PySem PySem.Spec PyProof.Rows L2
def revS (z : Str) : Str := ⟨z.cps.toList.reverse.toArray⟩
theorem Tx.rev {n : Nat} {x : Str} (h : Tx n x) : Tx n (revS x) := by
  refine ⟨?_, fun c hc => h.ok c (List.mem_reverse.mp hc)⟩
  show (List.toArray _).size ≤ _
  rw [List.size_toArray, List.length_reverse, Array.length_toList]
  exact h.len
theorem pe_revLK {X : Cx} (K : PySem.W.Frag) {e : Expr} {te : TE} {k : Nat} {p1 p2 p3 pos : Pos} (he : PE X e te) (h : X.K = K := by rfl) : PE X (.Subscript e (.Slice none none (some (.UnaryOp .USub (.Constant (.int 1) k p1) p2)) p3) pos) (tRevL K te) := by subst h; exact pe_revL he
end Np
namespace Np
open PySem L2
theorem Tx.size {n : Nat} {x : Str} (h : Tx n x) (hs : n ≤ 16777216 := by omega) : x.length ≤ sizeLine := by
  rw [sizeLine_eq]
  exact Nat.le_trans h.len hs
end Np
namespace Np
open PySem L2
theorem But.free {t p : Addr} {H H' : Hp} (b : But t H H') (h : H' p = none) (e : p ≠ t) : H p = none := by
  cases q : H p with
  | none => rfl
  | some o => rw [b p o e q] at h; cases h
end Np
set_option Elab.async false
set_option linter.all false
set_option maxRecDepth 100000
set_option maxHeartbeats 4000000
namespace Np
open PySem PySem.Spec PyProof.Rows L2
def exk (a : Addr) (oe : Obj) : HO := .ext fun h => h.get? a = some oe
theorem exk_ok {P : Program} {w : World} {H : Hp} {h : Heap} {a : Addr} {oe : Obj} (e : h.get? a = some oe) : ObjOk P w H h a (exk a oe) :=
  ⟨e, ⟨oe, e⟩, fun _ _ z keep => keep _ z⟩
section
variable {X : Cx} {pins : List (Addr × Obj)} {σ : L2.St} {H : Hp} {s : Shared} {a : Addr} {oe : Obj} {vs : Array Value}
/-- an object of fields, new behind the entry and tracked by nobody, is tracked from now on -/
theorem track (I : L2.Inv X pins σ H s) (e : s.heap.get? a = some oe) (hd : oe.data = .fields vs) (na : H a = none) (n0 : X.s_0.heap.get? a = none) (nL : a ≠ X.env.locals) (nP : ∀ p ∈ X.pn ++ pins, p.1 ≠ a) :
    L2.Inv X pins σ (upd H a (exk a oe)) s := by
  have ne_some : ∀ {b : Addr} {u : HO}, H b = some u → b ≠ a := fun hb => ne_of_none hb na
  refine ⟨I.ok, I.os, I.bare, ?_, I.loc, I.cell, ?_, ?_, ?_, ?_, I.len⟩
  · refine ⟨I.base.keep, I.base.slot, fun b o q n x => ?_, I.base.there, fun b xs q => ?_, fun b o u q => ?_, fun b ps q => ?_⟩
    · have hb : b ≠ a := fun z => by rw [z, n0] at q; cases q
      rw [upd_ne hb]
      exact I.base.free b o q n x
    · have q' := I.base.tups b xs q
      rw [upd_ne (ne_some q')]
      exact q'
    · have q' := I.base.frzs b o u q
      rw [upd_ne (ne_some q')]
      exact q'
    · obtain ⟨more, q'⟩ := I.base.tbls b ps q
      exact ⟨more, by rw [upd_ne (ne_some q')]; exact q'⟩
  · rw [upd_ne (Ne.symm nL)]
    exact I.free
  · intro x c hc
    have hca : c ≠ a := fun z => by
      obtain ⟨v, o, ho, hcell⟩ := I.cell x c hc
      rw [z, e] at ho
      cases ho
      rw [hd] at hcell
      exact nomatch hcell
    rw [upd_ne hca]
    exact I.freeC x c hc
  · intro p hp
    obtain ⟨p1, p2, p3⟩ := I.pin p hp
    exact ⟨p1, by rw [upd_ne (nP p hp)]; exact p2, p3⟩
  · intro b o q
    by_cases hb : b = a
    · subst hb
      rw [upd_same] at q
      cases q
      exact exk_ok e
    · rw [upd_ne hb] at q
      exact (I.hok b o q).stay (fun _ _ _ z => z) (fun c hc => by rw [upd_ne (ne_some hc)]; exact hc) (fun c xs hc => by rw [upd_ne (ne_some hc)]; exact hc)
end
structure Kept (H : Hp) (a C : Addr) (d : Option Addr) (fs : List (Str × V)) : Prop where
  ex : ∃ oe vs, H a = some (exk a oe) ∧ Zc (.ref C) d oe ∧ oe.data = .fields vs
  dc : ∀ dd, d = some dd → H dd = some (.xd fs)
theorem Kept.mono {H H' : Hp} {a C : Addr} {d : Option Addr} {fs : List (Str × V)} (k : Kept H a C d fs) (s : Same H H') : Kept H' a C d fs := by
  obtain ⟨oe, vs, h1, h2, h3⟩ := k.ex
  exact ⟨⟨oe, vs, s _ _ h1, h2, h3⟩, fun dd e => s _ _ (k.dc dd e)⟩
/-- what the clause's end tracks is a kept exception -/
theorem Kept.of {H : Hp} {a C : Addr} {d : Option Addr} {fs : List (Str × V)} {oe : Obj} {vs : Array Value} (na : H a = none) (z : Zc (.ref C) d oe) (dt : oe.data = .fields vs) (hd : ∀ dd, d = some dd → H dd = some (.xd fs)) : Kept (upd H a (exk a oe)) a C d fs :=
  ⟨⟨oe, vs, upd_same, z, dt⟩, fun dd e => by rw [upd_ne (ne_of_none (hd dd e) na)]; exact hd dd e⟩
end Np
set_option Elab.async false
set_option linter.all false
set_option maxRecDepth 100000
set_option maxHeartbeats 4000000
namespace Np
open PySem PySem.Spec PyProof.Rows L2
structure FnG (P : Program) (w : World) (K : PySem.W.Frag) (mg : Str → Option Value) (base : Heap) (CX : CXT) (k : Nat) (f : Addr) (fd : FuncData) (ps : List Str) (sp : Sp) : Prop where
  len : ∀ vs H Q E, sp vs H Q E → vs.length = ps.length
  run : ∀ (A : Around) (outer : List Env) (s : Shared) (H : Hp) (args : Args) (us : List Value) (vs : List V) (Q : VK) (E : XK), A.guards = some [] → Room k A → Env0 P w K mg base A outer s H → BindsTo s fd args (ps.zip us) → Vals vs us → sp vs H Q E →
    codeAny (model P w) A (.call (.ref f) args) (CR CX outer P w H s Q E) s
section
variable {P : Program} {w : World} {K : PySem.W.Frag} {mg : Str → Option Value} {base : Heap} {CX : CXT} {k : Nat} {f : Addr} {fd : FuncData} {ps : List Str} {sp : Sp}
theorem FnG.of (F : FnOk P w K mg base CX k f fd ps sp) : FnG P w K mg base CX k f fd ps sp := ⟨F.len, fun A outer s H args us vs Q E _ hr => F.run A outer s H args us vs Q E hr⟩
end
theorem fn_ofG {CX : CXT} {P : Program} {w : World} {K : PySem.W.Frag} {mg : Str → Option Value} {base : Heap} {k : Nat} {f : Addr} {name qual : Str} {params : Arguments} {body : List Stmt} {scope : Scope} {dV kV doc pm cdv ct oc : Value} {an od : Option Addr}
    {osl : Array (Option Value)} {N ps : List Str} {sp : Sp} (lk : K.lookup f = some ⟨oc, od, .func (PySem.W.fnOf name qual params body scope dV kV doc pm an cdv ct), osl⟩) (hcd : PySem.W.codeIn K cdv qual = true) (S : FnScope N ps scope)
    (len : ∀ vs H Q E, sp vs H Q E → vs.length = ps.length)
    (hbody : ∀ (A : Around) (outer : List Env) (s : Shared) (H : Hp) (vs : List V) (Q : VK) (E : XK), A.guards = some [] → Room k (A.deeper (envOfC qual scope s.heap.objs.size f cdv)) → sp vs H Q E →
      ∃ t, PSs (cxOf CX P w K mg base N qual scope f cdv A outer s H E) body t ∧ t { nx := fun _ H' => Q .non H', rt := Q } (start N vs) H) :
    FnG P w K mg base CX (k + 1) f (PySem.W.fnOf name qual params body scope dV kV doc pm an cdv ct) ps sp := by
  refine ⟨len, fun A outer s H args us vs Q E hgd room e0 hbi rel hsp => ?_⟩
  have hlen := len _ _ _ _ hsp
  have inK : K.In s.heap := e0.mod.kin.keeps fun b o q => (e0.bs b o q).1
  have limit : s.heap.NoLimit := e0.mod.nolimit.keeps fun b o q => (e0.bs b o q).1
  have kinds : ∀ y ∈ ps.zip us, scope.names.lookup y.1 = some .local ∨ (scope.names.lookup y.1 = some .cell ∧ ((cellsFrom (s.heap.objs.size + 1) scope.names []).lookup y.1).isSome = true) := fun ⟨nm, v⟩ hy => by
    rcases S.par nm (List.of_mem_zip hy).1 with z | z
    · exact .inl z
    · exact .inr ⟨z, PySem.W.cellsFrom_some _ _ _ (.inl z)⟩
  refine codeAny_call_function room.depth (inK _ _ lk) rfl S.co S.gen rfl (PySem.W.codeRec_of inK hcd) (hbi _ _ _ _ ?_)
  refine wpAny_newFunctionEnv_cells S.kind kinds fun env henv s1 x => ?_
  subst henv
  refine ⟨limit.keeps x.toInCall.keep, codeAny_func ?_⟩
  obtain ⟨t, ht, hq⟩ := hbody A outer s H vs Q E hgd (room.deeper _) hsp
  have I0 : L2.Inv (cxOf CX P w K mg base N qual scope f cdv A outer s H E) [] (start N vs) H s1 := inv_start S room.hd e0 hlen rel x
  refine wpAny_mono (ht.run [] s1 (start N vs) H _ I0 hq) (fun fl s' hs => ?_) fun _ _ z => z
  have done : ∀ {σ' : L2.St} {H' : Hp} {v : V} {u : Value}, L2.Inv (cxOf CX P w K mg base N qual scope f cdv A outer s H E) [] σ' H' s' → RelV v u → Q v H' → CE outer P w H s Q u s' :=
    fun {σ' H' v u} J rv q => ⟨v, H', J.os, J.bare, J.base, J.hok, rv, q⟩
  cases fl with
  | ret u =>
    obtain ⟨v, σ', H', J, rv, q⟩ := hs
    exact done J rv q
  | next =>
    obtain ⟨σ', H', J, q⟩ := hs
    exact done (v := V.non) (u := Value.none) J rfl q
  | brk =>
    obtain ⟨_, _, _, q⟩ := hs
    exact q.elim
  | cont =>
    obtain ⟨_, _, _, q⟩ := hs
    exact q.elim
section
variable {P : Program} {w : World} {K : PySem.W.Frag} {mg : Str → Option Value} {base : Heap} {x qual : Str} {st : Stmt} {f : Addr} {fd : FuncData} {N ps : List Str} {k : Nat} {sp : Sp}
theorem Fun.okG (F : Fun K x qual st f fd) (S : FnScope N ps (defScope st)) (len : ∀ vs H Q E, sp vs H Q E → vs.length = ps.length)
    (hbody : ∀ (cdv : Value) (A : Around) (outer : List Env) (s : Shared) (H : Hp) (vs : List V) (Q : VK) (E : XK), (A.deeper (envOfC qual (defScope st) s.heap.objs.size f cdv)).guards = some [] → Room k (A.deeper (envOfC qual (defScope st) s.heap.objs.size f cdv)) → sp vs H Q E →
      ∃ t, PSs (cxOf CX0 P w K mg base N qual (defScope st) f cdv A outer s H E).nox (defBody st) t ∧ t { nx := fun _ H' => Q .non H', rt := Q } (start N vs) H) : FnG P w K mg base CX0 (k + 1) f fd ps sp := by
  obtain ⟨oc, od, kV, doc, pm, an, cdv, ct, osl, rfl, lk, hcd⟩ := F.ex
  refine fn_ofG lk hcd S len fun A outer s H vs Q E hgd hr hsp => ?_
  obtain ⟨t, h, q⟩ := hbody cdv A outer s H vs Q E hgd hr hsp
  exact ⟨t, h.nox, q⟩
theorem FunD.okG {CX : CXT} {params : Arguments} {body : List Stmt} {scope : Scope} {dvs : List V} {kws : List (Str × V)} (F : FunD K x qual params body scope dvs kws f fd) (S : FnScope N ps scope) (len : ∀ vs H Q E, sp vs H Q E → vs.length = ps.length)
    (hbody : ∀ (cdv : Value) (A : Around) (outer : List Env) (s : Shared) (H : Hp) (vs : List V) (Q : VK) (E : XK), (A.deeper (envOfC qual scope s.heap.objs.size f cdv)).guards = some [] → Room k (A.deeper (envOfC qual scope s.heap.objs.size f cdv)) → sp vs H Q E →
      ∃ t, PSs (cxOf CX P w K mg base N qual scope f cdv A outer s H E) body t ∧ t { nx := fun _ H' => Q .non H', rt := Q } (start N vs) H) : FnG P w K mg base CX (k + 1) f fd ps sp := by
  obtain ⟨oc, od, dV, kV, doc, pm, an, cdv, ct, osl, rfl, lk, hcd, _, _⟩ := F.ex
  exact fn_ofG lk hcd S len fun A outer s H vs Q E hgd hr hsp => hbody cdv A outer s H vs Q E hgd hr hsp
end
/-- the end: the law's promise at the heap behind the top -/
theorem law_callG {P : Program} {w : World} {K : PySem.W.Frag} {mg mb : Str → Option Value} {CX : CXT} {k : Nat} {fa a : Addr} {fd : FuncData} {x : Str} {sp : Sp} {s₁ : Shared} {vs : List Value} {ns : List Int}
    (inK : K.In s₁.heap) (hmg : s₁.heap.Ns mainGlobals mg) (hmb : s₁.heap.Ns builtinsNs mb) (hbb : ∀ x : Str, x ≠ "__name__" → mb x = bootBuiltins x) (hlim : s₁.heap.NoLimit) (hgens : s₁.gens = #[])
    (hsc : s₁.heap.get? a = some { cls := .type "list", data := .seq vs.toArray }) (hints : IntsAre vs ns) (hlen : ns.length ≤ sizeLine) (hr : Room k callerA)
    (F : ∀ base : Heap, K.In base → base.Ns mainGlobals mg → FnG P w K mg base CX k fa fd [x] sp) (hbind : ∀ (s : Shared) (u : Value), BindsTo s fd ⟨[u], []⟩ [(x, u)])
    (hsp : ∀ H : Hp, Only H → SqL K H a (ns.map V.int) → sp [.ref a] H (fun v _ => v = .bl true) fun _ _ _ => False)
    (hCX : ∀ H e s', CX [] H s₁ (fun _ _ _ => False) e s' → False) :
    codeAny (model P w) callerA (.call (.ref fa) ⟨[.ref a], []⟩) (fun r s' => r = .ok (.ret (.bool true)) ∧ OldK s₁.heap s'.heap ∧ s'.os = s₁.os ∧ AllBare s'.gens) s₁ := by
  have rel := vals_ints hints
  have lv := hints.length
  have core : ∀ H : Hp, Only H → SqL K H a (ns.map V.int) → HOk P w H s₁.heap → (∀ b, H b ≠ none → b = a) → (H a ≠ none → K.lookup a = none) →
      codeAny (model P w) callerA (.call (.ref fa) ⟨[.ref a], []⟩) (fun r s' => r = .ok (.ret (.bool true)) ∧ OldK s₁.heap s'.heap ∧ s'.os = s₁.os ∧ AllBare s'.gens) s₁ := by
    intro H only sq hok onlyA notK
    have ground : ∀ {b : Addr} {o : Obj}, s₁.heap.get? b = some o → H b = none → (hidT s₁.heap H).get? b = some o := fun e n => hidT_get e n
    have noDict : ∀ {b : Addr} {o : Obj} {es : Array DictEntry} {ep : Nat}, s₁.heap.get? b = some o → o.data = .dict es ep → H b = none := fun {b o es ep} e dd => by
      cases q : H b with
      | none => rfl
      | some u =>
        have eb : b = a := onlyA b (by rw [q]; simp)
        subst eb
        rw [hsc] at e
        cases e
        exact nomatch (show Data.seq vs.toArray _ = Data.dict es ep from dd)
    have spaces : ∀ {b : Addr} {m : Str → Option Value}, s₁.heap.Ns b m → (hidT s₁.heap H).Ns b m := fun {b m} ⟨o, es, ep, e, dd, r⟩ => ⟨o, es, ep, ground e (noDict e dd), dd, r⟩
    have kb : K.In (hidT s₁.heap H) := fun b o e => ground (inK b o e) (by
      cases q : H b with
      | none => rfl
      | some u =>
        have eb : b = a := onlyA b (by rw [q]; simp)
        subst eb
        rw [notK (by rw [q]; simp)] at e
        cases e)
    have hMod : Mod K mg (hidT s₁.heap H) := ⟨kb, spaces hmg, ⟨mb, spaces hmb, hbb⟩, let ⟨mc, h1, h2⟩ := hlim; ⟨mc, spaces h1, h2⟩⟩
    have e0 : Env0 P w K mg (hidT s₁.heap H) callerA [] s₁ H := ⟨rfl, hMod, fun b o e => of_hidT e, Nat.le_of_eq (hidT_size _ _), trivial, fun b hb => absurd (show b ∈ ([] : List Addr) from hb) (by simp), hok, .of_eq hgens⟩
    refine codeAny_mono ((F _ kb (spaces hmg)).run callerA [] s₁ H ⟨[.ref a], []⟩ [.ref a] [.ref a] _ _ rfl hr e0 (hbind s₁ (.ref a)) (.cons rfl .nil) (hsp H only sq)) fun r s' hh => ?_
    cases r with
    | error e => exact (hCX H e s' hh).elim
    | ok fl =>
      cases fl with
      | next => exact False.elim hh
      | brk => exact False.elim hh
      | cont => exact False.elim hh
      | ret u =>
        obtain ⟨v, H', eos, bare, un, hok', rv, q⟩ := hh
        have ev : v = .bl true := q
        subst ev
        obtain rfl : u = Value.bool true := rv
        refine ⟨rfl, OldK.of_keep fun b o e => ?_, eos, bare⟩
        cases q2 : H b with
        | none => exact un.keep b o e q2 (by intro z; exact absurd (show b ∈ ([] : List Addr) from z) (by simp)) (by simp)
        | some u =>
          rcases only b with z | ⟨ob, xs, z⟩
          · rw [q2] at z
            cases z
          · obtain ⟨e1, _⟩ := hok b _ z
            obtain ⟨e2, _⟩ := hok' b _ (un.frzs b ob _ z)
            rw [e] at e1
            cases e1
            exact e2
  cases hk : K.lookup a with
  | some o =>
    have e := inK a o hk
    rw [hsc] at e
    cases e
    refine core (fun _ => none) (fun _ => .inl rfl) (.inr ⟨_, vs.toArray, _, hk, rfl, rfl, rfl, by rw [List.size_toArray, lv]; exact hlen, by simpa using rel⟩) (fun b u z => nomatch (show (none : Option HO) = some u from z)) (fun b z => absurd rfl z) fun z => absurd rfl z
  | none =>
    refine core (fun b => if b = a then some (.frz { cls := .type "list", data := .seq vs.toArray } (.lst (ns.map V.int))) else none) (fun b => ?_) (.inl (.inr ⟨{ cls := .type "list", data := .seq vs.toArray }, if_pos rfl⟩)) (fun b u z => ?_) (fun b z => ?_) fun _ => hk
    · by_cases hb : b = a
      · exact .inr ⟨_, _, if_pos hb⟩
      · exact .inl (if_neg hb)
    · by_cases hb : b = a
      · have z' := (if_pos hb).symm.trans z
        cases z'
        subst hb
        exact ⟨hsc, by rw [List.length_map]; exact hlen, vs, _, rel, hsc⟩
      · exact nomatch (if_neg hb).symm.trans z
    · by_cases hb : b = a
      · exact hb
      · exact absurd (if_neg hb) z
theorem walk_ofG {l : PySem.W.OpenLaw} {n k : Nat} {q : Program} {loose : List Str} {XP : (Str → Option Value) → Heap → Prop} {YP : World → Heap → Prop} {d : DefRec} {K : Params → PySem.W.Frag} {CX : World → CXT} {sp : World → Sp} {x : Str}
    (hn : l.most = some n) (hn2 : n ≤ sizeLine) (hdf : d.params.defaults = []) (hr : Room k callerA)
    (hY : ∀ (w : World) (h : Heap), YP w h → (K w.params).In h)
    (F : ∀ (w : World) (mg : Str → Option Value) (fa : Addr) (h : Heap), (K w.params).In h → h.Ns mainGlobals mg → mg d.name = some (.ref fa) →
      ∃ fd : FuncData, (∀ (s : Shared) (u : Value), BindsTo s fd ⟨[u], []⟩ [(x, u)]) ∧
        ∀ base : Heap, (K w.params).In base → base.Ns mainGlobals mg → FnG l.prog w (K w.params) mg base (CX w) k fa fd [x] (sp w))
    (hsp : ∀ (w : World) (H : Hp) (a : Addr) (ns : List Int), ns.length ≤ n → Only H → SqL (K w.params) H a (ns.map V.int) → sp w [.ref a] H (fun v _ => v = .bl true) fun _ _ _ => False)
    (hCX : ∀ (w : World) (H : Hp) (s : Shared) (e : Value) (s' : Shared), CX w [] H s (fun _ _ _ => False) e s' → False) :
    PySem.W.WalkO q loose XP YP l.row.toRowW d [] (fun f vs => PySem.call f vs) := by
  refine Att.attach_call hn hdf fun w s₀ s₁ mg mb fa o pm cd doc a vs ns G Y ho hd hcd hmg hobj hints hlen hg => ?_
  obtain ⟨fd, hb, hF⟩ := F w mg fa _ (hY w _ Y) G.T.g hmg
  exact law_callG (hY w _ Y) G.T.g G.T.b G.T.builtins G.T.nolimit hg hobj hints (Nat.le_trans hlen hn2) hr hF hb (fun H hO hS => hsp w H a ns hlen hO hS) fun H e s' => hCX w H s₁ e s'
structure OkG (P : Program) (w : World) (K : PySem.W.Frag) (mg : Str → Option Value) (base : Heap) (CX : CXT) (k : Nat) (x : Str) (ps : List Str) (sp : Sp) (f : Addr) (fd : FuncData) : Prop where
  ok : FnG P w K mg base CX k f fd ps sp
  m : mg x = some (.ref f)
  kp : PySem.W.keepIn K (.ref f) = true
section
variable {X : Cx} {CX : CXT} {k n : Nat} {f : Addr} {fd : FuncData} {ps ks : List Str} {sp : Sp} {E : L2.St → XK} {x : Str} {p pos : Pos} {e : Expr} {es : List Expr} {kws : List Keyword} {t tk : TA} {dvs : List V} {gV : List V → List V → List V}
theorem pass0At {X : Cx} (σ : L2.St) : PassesAt CX0 X σ E0 := fun _ _ _ _ _ _ h => h.elim
theorem run_g {pins : List (Addr × Obj)} {σ : L2.St} {H : Hp} {s : Shared} {Q : VK} {args : Args} {us : List Value} {vs : List V} {E : XK} (F : FnG X.prog X.w X.K X.mg X.base CX k f fd ps sp) (hgd : X.A.guards = some []) (hr : Room k X.A) (hb : BindsTo s fd args (ps.zip us)) (hx : PassesAt CX X σ E)
    (I : L2.Inv X pins σ H s) (r : Vals vs us) (h : sp vs H Q E) : codeAny (model X.prog X.w) X.A (.call (.ref f) args) (fun r s' => match r with | .ok (.ret u) => EP X pins σ Q u s' | .ok _ => False | .error e => X.xe e s') s := by
  refine codeAny_mono (F.run X.A X.stack s H args us vs Q E hgd hr I.env0 hb r h) fun r s' hq => ?_
  cases r with
  | error e => exact hx pins H s e s' I hq
  | ok fl =>
    cases fl with
    | ret u => exact I.after hq
    | next => exact False.elim hq
    | brk => exact False.elim hq
    | cont => exact False.elim hq
def tCallE (sp : Sp) (dvs : List V) (E : L2.St → XK) (t : TA) : TE := fun σ H Q => t σ H fun vs H1 => sp (vs ++ dvs) H1 Q (E σ)
theorem run_gw {pins : List (Addr × Obj)} {σ : L2.St} {H : Hp} {s : Shared} {Q : VK} {us ds : List Value} {vs : List V} {E : XK} (F : FnG X.prog X.w X.K X.mg X.base CX k f fd ps sp) (hgd : X.A.guards = some []) (hr : Room k X.A) (hb : Binds X.K fd ps ds) (hd : Vals dvs ds) (hx : PassesAt CX X σ E)
    (I : L2.Inv X pins σ H s) (r : Vals vs us) (h : sp (vs ++ dvs) H Q E) : wpAny (model X.prog X.w) X.A (call (.ref f) us) (EP X pins σ Q) X.xe s := by
  have r2 : Vals (vs ++ dvs) (us ++ ds) := r.append hd
  have hl : (us ++ ds).length = ps.length := by rw [← r2.length]; exact F.len _ _ _ _ h
  refine wpAny_call (codeAny_mono (run_g F hgd hr (hb s us I.kIn hl) hx I r2 h) fun r s' hq => ?_)
  cases r with
  | error e => exact hq
  | ok fl => cases fl <;> exact hq
theorem pe_c (O : OkG X.prog X.w X.K X.mg X.base CX k x ps sp f fd) (b : ∃ ds, Vals dvs ds ∧ Binds X.K fd ps ds) (hgd : X.A.guards = some []) (hr : Room k X.A) (hx : ∀ σ, PassesAt CX X σ (E σ)) (ha : PA X (e :: es) t) (hg : Gl X x := by rfl)
    (hdb : (x == ("__debug__" : Str)) = false := by decide) (he : starEach (e :: es) X.env = (false, eval e X.env) :: starEach es X.env := by rfl) (hpl : (backTo pos (starEach es X.env)).any (·.1) = false := by rfl) :
    PE X (.Call (.Name x p) (e :: es) [] pos) (tCallE sp dvs E t) := by
  obtain ⟨ds, hv, hb⟩ := b
  refine ⟨fun pins s σ H Q I h => ?_⟩
  refine wpAny_Call_Name_kw (ld_glob I hg O.m ?_ hdb)
  refine PySem.W.callWith_K (h₀ := X.base) I.ok.mod.kin O.kp (L2.thn (ha.run pos pins s σ H _ I h) fun us s1 hh => ?_) he hpl
  obtain ⟨vs, H1, I1, r, q⟩ := hh
  exact ⟨I1.kIn, run_gw O.ok hgd hr hb hv (hx σ) I1 r q⟩
theorem run_gk {pins : List (Addr × Obj)} {σ : L2.St} {H : Hp} {s : Shared} {Q : VK} {us ws : List Value} {vs zs : List V} {E : XK} (F : FnG X.prog X.w X.K X.mg X.base CX k f fd ps sp) (hgd : X.A.guards = some []) (hr : Room k X.A) (b : KB X.K fd ps n ks gV) (hx : PassesAt CX X σ E)
    (I : L2.Inv X pins σ H s) (r : Vals vs us) (rz : Vals zs ws) (l1 : vs.length = n) (l2 : zs.length = ks.length) (h : sp (gV vs zs) H Q E) : wpAny (model X.prog X.w) X.A (call (.ref f) us (ks.zip ws)) (EP X pins σ Q) X.xe s := by
  obtain ⟨g, hb⟩ := b
  refine wpAny_call (codeAny_mono (run_g F hgd hr (hb.to s us ws I.kIn (r.length.symm.trans l1) (rz.length.symm.trans l2)) hx I (hb.rel r rz) h) fun r s' hq => ?_)
  cases r with
  | error e => exact hq
  | ok fl => cases fl <;> exact hq
end
def rReprD (K : PySem.W.Frag) : List V → Hp → VK → Prop := fun xs H Q => ∃ (a : Addr) (d : PyData), xs = [.ref a] ∧ Dp K H (.ref a) d ∧ PyData.showable d = true ∧ SeqAt.shaped d = true ∧ d.shown.length ≤ sizeLine ∧ Q (.str d.shown) H
theorem call_reprD {X : Cx} (K : PySem.W.Frag) (hgd : X.A.guards = some []) (hu : X.A.units + 130 < cLine) (hK : X.K = K := by rfl) : CallR X (.builtin "repr") (rReprD K) := by
  subst hK
  intro pins s σ H xs us Q I r h
  obtain ⟨a, d, rfl, dp, sh, shp, hz, q⟩ := h
  obtain ⟨u, rfl, rx⟩ := vals1 r
  cases (show u = Value.ref a from rx)
  obtain ⟨as, rd⟩ := dp.reads I d _ _ rfl
  have hd := SeqAt.depth_of_shaped shp
  have hnd : d.hasDict = false := PyData.hasDict_of_canLay d (SeqAt.canLay_of_shaped shp)
  exact repr_of_reads' rd sh (fun z => by rw [hnd] at z; cases z) hgd (by omega) (fun _ _ z => z) (fun h' t tk keep => ⟨.str d.shown, H, I.kept keep, ⟨_, rfl⟩, q⟩) hz
end Np
set_option Elab.async false
set_option linter.all false
set_option maxRecDepth 100000
set_option maxHeartbeats 4000000
namespace Np
open PySem PySem.Spec PyProof.Rows L2
theorem op_mulS {X : Cx} : OpR X (binaryOp .Mult) (fun x y H Q => ∃ (z : Str) (n : Int), x = .str z ∧ y = .int n ∧ MulOk z n ∧ Q (.str (Txt.mul z n)) H) := by
  intro pins s σ H x y v u Q I rx ry h
  obtain ⟨z, n, rfl, rfl, ok, q⟩ := h
  obtain ⟨t, rfl⟩ := rx
  obtain ⟨t', rfl⟩ := ry
  exact SB.mul ok fun t'' k => ⟨.str (Txt.mul z n), H, I.tok k, ⟨_, rfl⟩, q⟩
theorem mulOk_of {z : Str} {n : Int} (h1 : n < 2 ^ 30) (h0 : -(2 ^ 30) < n) (hz : z.length * n.toNat ≤ 16777216) : MulOk z n := by
  refine ⟨?_, fun hn _ => ?_, fun _ _ => ?_⟩
  · rw [decide_eq_false (by omega), decide_eq_false (by omega)] <;> rfl
  · obtain ⟨m, rfl⟩ := Int.eq_ofNat_of_zero_le (show 0 ≤ n by omega)
    have hm : 0 < (m : Int) := by omega
    intro hgt
    have hz' : z.length * m ≤ 16777216 := hz
    have h2 : ((2 ^ 63 - 1 : Int)) / (m : Int) < (z.length : Int) := hgt
    have h3 := (Int.ediv_lt_iff_lt_mul hm).mp h2
    have h4 : ((z.length * m : Nat) : Int) ≤ ((16777216 : Nat) : Int) := Int.ofNat_le.mpr hz'
    rw [Int.natCast_mul] at h4
    omega
  · have hz' : z.length * n.toNat ≤ sizeLine := by rw [sizeLine_eq]; exact hz
    exact decide_eq_false (Nat.not_lt.mpr hz')
theorem foldl_reps (a : Array Nat) : ∀ (k : Nat) (b : Array Nat), ((List.replicate k a).foldl (· ++ ·) b).toList = b.toList ++ (List.replicate k a.toList).flatten
  | 0, b => by simp
  | k + 1, b => by
    rw [List.replicate_succ, List.foldl_cons, foldl_reps a k (b ++ a), List.replicate_succ, List.flatten_cons, Array.toList_append, List.append_assoc]
theorem toList_mul (z : Str) (n : Nat) : (Txt.mul z n).cps.toList = (List.replicate n z.cps.toList).flatten := by
  unfold Txt.mul
  by_cases h1 : (n : Int) < 1
  · have e : n = 0 := by omega
    subst e
    rw [if_pos h1] <;> rfl
  · rw [if_neg h1]
    by_cases h2 : ((n : Int) == 1 || z.length == 0) = true
    · rw [if_pos h2]
      rcases Bool.or_eq_true_iff.mp h2 with q | q
      · have e : n = 1 := by have := eq_of_beq q; omega
        subst e
        simp
      · have e : z.length = 0 := eq_of_beq q
        have e2 : z.cps.toList = [] := List.eq_nil_of_length_eq_zero (by rw [Array.length_toList]; exact e)
        rw [e2]
        simp
    · rw [if_neg h2]
      show ((List.replicate (n : Int).toNat z.cps).foldl (· ++ ·) #[]).toList = _
      rw [foldl_reps, Int.toNat_natCast] <;> rfl
theorem Tx.mul {m : Nat} {z : Str} (h : Tx m z) (n : Nat) : Tx (n * m) (Txt.mul z n) := by
  refine ⟨?_, fun c hc => ?_⟩
  · show (Txt.mul z n).cps.size ≤ _
    rw [← Array.length_toList, toList_mul, List.length_flatten, List.map_replicate, List.sum_replicate_nat, Array.length_toList]
    exact Nat.mul_le_mul_left n h.len
  · rw [toList_mul] at hc
    obtain ⟨l, hl, hcl⟩ := List.mem_flatten.mp hc
    rw [List.eq_of_mem_replicate hl] at hcl
    exact h.ok c hcl
def spL (K : PySem.W.Frag) : Sp := fun vs H Q _ => ∃ (a : Addr) (ns : List Int), vs = [.ref a] ∧ SqL K H a (ns.map V.int) ∧ ns.length ≤ 63 ∧ ∀ H', Q (.bl true) H'
theorem un130 {k : Nat} {A : Around} (hr : Room k A) : A.units + 130 < cLine := by have := hr.un; omega
end Np
set_option Elab.async false
set_option linter.all false
set_option maxRecDepth 100000
set_option maxHeartbeats 4000000
namespace Np
open PySem PySem.Spec PyProof.Rows L2
inductive DD where
  | non | bl (b : Bool) | int (i : Int) | str (x : Str) | lst (xs : List DD) | tup (xs : List DD) | dic (kvs : List (Key × DD)) | obj (C : Str) (fs : List (Str × DD)) | exc (C : Str) (fs : List (Str × DD)) | raw (a : Addr) | ptr (k : Nat) | tux (xs : List DD)
abbrev CM := Str → Addr
/-- an exception's dict, if it has one -/
def XdAt (H : Hp) (d : Option Addr) (xs : List (Str × V)) : Prop := match d with
  | some d => H d = some (.xd xs)
  | none => xs = []
theorem XdAt.mono {H H' : Hp} {d : Option Addr} {xs : List (Str × V)} (h : XdAt H d xs) (e : Same H H') : XdAt H' d xs := by
  cases d with
  | none => exact h
  | some d => exact e _ _ h
/-- the heap of what stays, and where the things stand that may change -/
structure GH where
  hp : Hp
  ads : List Addr
instance : CoeFun GH (fun _ => Hp) := ⟨GH.hp⟩
instance : Coe GH Hp := ⟨GH.hp⟩
abbrev GH.upd (G : GH) (p : Addr) (o : HO) : GH := ⟨L2.upd G.hp p o, G.ads⟩
structure GS (G G' : GH) : Prop where
  s : Same G.hp G'.hp
  a : G.ads <+: G'.ads
theorem GS.refl (G : GH) : GS G G := ⟨Same.refl _, List.prefix_rfl⟩
theorem GS.trans {G G1 G2 : GH} (e : GS G G1) (e' : GS G1 G2) : GS G G2 := ⟨e.s.trans e'.s, e.a.trans e'.a⟩
theorem GS.free {G G' : GH} (e : GS G G') {l : Addr} (h : G'.hp l = none) : G.hp l = none := e.s.free h
theorem GS.seq {K : PySem.W.Frag} {G G' : GH} {a : Addr} {xs : List V} (e : GS G G') (h : SqL K G.hp a xs) : SqL K G'.hp a xs := e.s.seq h
instance {G G' : GH} : CoeFun (GS G G') (fun _ => ∀ b o, G.hp b = some o → G'.hp b = some o) := ⟨fun h => h.s⟩
theorem prefix_get {α : Type} {l l' : List α} {k : Nat} {a : α} (h : l <+: l') (e : l[k]? = some a) : l'[k]? = some a := by
  obtain ⟨t, rfl⟩ := h
  rw [List.getElem?_append_left (List.getElem?_eq_some_iff.mp e).1]
  exact e
theorem GS.new {G : GH} {p : Addr} {o : HO} (h : G.hp p = none) : GS G (G.upd p o) := ⟨same_new h, List.prefix_rfl⟩
mutual
inductive Rp (K : PySem.W.Frag) (cm : CM) (H : GH) : V → DD → Prop
  | non : Rp K cm H .non .non
  | bl (b : Bool) : Rp K cm H (.bl b) (.bl b)
  | int (i : Int) : Rp K cm H (.int i) (.int i)
  | str (x : Str) : Rp K cm H (.str x) (.str x)
  | lst {a : Addr} {xs : List V} {ds : List DD} : H a = some (.lst xs) → RpA K cm H xs ds → Rp K cm H (.ref a) (.lst ds)
  | tup {a : Addr} {xs : List V} {ds : List DD} : H a = some (.tup xs) → RpA K cm H xs ds → Rp K cm H (.ref a) (.tup ds)
  | dic {a : Addr} {xs : List (Key × V)} {ds : List (Key × DD)} : H a = some (.dK xs) → RpK K cm H xs ds → Rp K cm H (.ref a) (.dic ds)
  | obj {a dx : Addr} {C : Str} {xs : List (Str × V)} {ds : List (Str × DD)} : H a = some (.ins (cm C) dx xs) → RpF K cm H xs ds → Rp K cm H (.ref a) (.obj C ds)
  | exc {a : Addr} {d : Option Addr} {oe : Obj} {vs : Array Value} {C : Str} {xs : List (Str × V)} {ds : List (Str × DD)} : H a = some (exk a oe) → Zc (.ref (cm C)) d oe → oe.data = .fields vs → XdAt H d xs → RpF K cm H xs ds → Rp K cm H (.ref a) (.exc C ds)
  | raw (a : Addr) : Rp K cm H (.ref a) (.raw a)
  | ptr {a : Addr} {k : Nat} : H.ads[k]? = some a → Rp K cm H (.ref a) (.ptr k)
  | tux {a : Addr} {o : Obj} {xs : List V} {ds : List DD} : H a = some (.frz o (.tup xs)) → o.dict = none → RpA K cm H xs ds → Rp K cm H (.ref a) (.tux ds)
inductive RpA (K : PySem.W.Frag) (cm : CM) (H : GH) : List V → List DD → Prop
  | nil : RpA K cm H [] []
  | cons {v : V} {vs : List V} {d : DD} {ds : List DD} : Rp K cm H v d → RpA K cm H vs ds → RpA K cm H (v :: vs) (d :: ds)
inductive RpK (K : PySem.W.Frag) (cm : CM) (H : GH) : List (Key × V) → List (Key × DD) → Prop
  | nil : RpK K cm H [] []
  | cons {k : Key} {v : V} {vs : List (Key × V)} {d : DD} {ds : List (Key × DD)} : Rp K cm H v d → RpK K cm H vs ds → RpK K cm H ((k, v) :: vs) ((k, d) :: ds)
inductive RpF (K : PySem.W.Frag) (cm : CM) (H : GH) : List (Str × V) → List (Str × DD) → Prop
  | nil : RpF K cm H [] []
  | cons {k : Str} {v : V} {vs : List (Str × V)} {d : DD} {ds : List (Str × DD)} : Rp K cm H v d → RpF K cm H vs ds → RpF K cm H ((k, v) :: vs) ((k, d) :: ds)
end
theorem Same.tupq {K : PySem.W.Frag} {H H' : Hp} {a : Addr} {xs : List V} (e : Same H H') (h : SqT K H a xs) : SqT K H' a xs := by
  rcases h with (h | ⟨o, h⟩) | h
  · exact .inl (.inl (e _ _ h))
  · exact .inl (.inr ⟨o, e _ _ h⟩)
  · exact .inr h
section
variable {K : PySem.W.Frag} {cm : CM} {H H' : GH}
mutual
theorem Rp.mono (e : GS H H') : ∀ {v : V} {d : DD}, Rp K cm H v d → Rp K cm H' v d
  | _, _, .non => .non
  | _, _, .bl b => .bl b
  | _, _, .int i => .int i
  | _, _, .str x => .str x
  | _, _, .lst h r => .lst (e.s _ _ h) (RpA.mono e r)
  | _, _, .tup h r => .tup (e.s _ _ h) (RpA.mono e r)
  | _, _, .dic h r => .dic (e.s _ _ h) (RpK.mono e r)
  | _, _, .obj h r => .obj (e.s _ _ h) (RpF.mono e r)
  | _, _, .exc h z q h2 r => .exc (e.s _ _ h) z q (h2.mono e.s) (RpF.mono e r)
  | _, _, .raw a => .raw a
  | _, _, .ptr h => .ptr (prefix_get e.a h)
  | _, _, .tux h n r => .tux (e.s _ _ h) n (RpA.mono e r)
theorem RpA.mono (e : GS H H') : ∀ {v : List V} {d : List DD}, RpA K cm H v d → RpA K cm H' v d
  | _, _, .nil => .nil
  | _, _, .cons h r => .cons (Rp.mono e h) (RpA.mono e r)
theorem RpK.mono (e : GS H H') : ∀ {v : List (Key × V)} {d : List (Key × DD)}, RpK K cm H v d → RpK K cm H' v d
  | _, _, .nil => .nil
  | _, _, .cons h r => .cons (Rp.mono e h) (RpK.mono e r)
theorem RpF.mono (e : GS H H') : ∀ {v : List (Str × V)} {d : List (Str × DD)}, RpF K cm H v d → RpF K cm H' v d
  | _, _, .nil => .nil
  | _, _, .cons h r => .cons (Rp.mono e h) (RpF.mono e r)
end
theorem RpA.length : ∀ {v : List V} {d : List DD}, RpA K cm H v d → v.length = d.length
  | _, _, .nil => rfl
  | _, _, .cons _ r => congrArg Nat.succ (RpA.length r)
theorem RpA.append : ∀ {v v' : List V} {d d' : List DD}, RpA K cm H v d → RpA K cm H v' d' → RpA K cm H (v ++ v') (d ++ d')
  | _, _, _, _, .nil, s => s
  | _, _, _, _, .cons h r, s => .cons h (RpA.append r s)
theorem RpA.take : ∀ (n : Nat) {v : List V} {d : List DD}, RpA K cm H v d → RpA K cm H (v.take n) (d.take n)
  | 0, _, _, _ => .nil
  | _ + 1, _, _, .nil => .nil
  | n + 1, _, _, .cons h r => .cons h (RpA.take n r)
theorem RpA.drop : ∀ (n : Nat) {v : List V} {d : List DD}, RpA K cm H v d → RpA K cm H (v.drop n) (d.drop n)
  | 0, _, _, h => h
  | _ + 1, _, _, .nil => .nil
  | n + 1, _, _, .cons _ r => RpA.drop n r
theorem RpA.get : ∀ {n : Nat} {v : List V} {d : List DD} {x : DD}, RpA K cm H v d → d[n]? = some x → ∃ y, v[n]? = some y ∧ Rp K cm H y x
  | _, _, _, _, .nil, e => by simp at e
  | 0, _, _, _, .cons h _, e => by simp at e; subst e; exact ⟨_, rfl, h⟩
  | n + 1, _, _, _, .cons _ r, e => by
    obtain ⟨y, a, b⟩ := RpA.get (n := n) r (by simpa using e)
    exact ⟨y, by simpa using a, b⟩
theorem RpA.set {y : V} {x : DD} (h : Rp K cm H y x) : ∀ (n : Nat) {v : List V} {d : List DD}, RpA K cm H v d → RpA K cm H (v.set n y) (d.set n x)
  | _, _, _, .nil => .nil
  | 0, _, _, .cons _ r => .cons h r
  | n + 1, _, _, .cons a r => .cons a (RpA.set h n r)
theorem RpA.reverse : ∀ {v : List V} {d : List DD}, RpA K cm H v d → RpA K cm H v.reverse d.reverse
  | _, _, .nil => .nil
  | _, _, .cons h r => by
    rw [List.reverse_cons, List.reverse_cons]
    exact (RpA.reverse r).append (.cons h .nil)
theorem RpA.one {v : V} {d : DD} (h : Rp K cm H v d) : RpA K cm H [v] [d] := .cons h .nil
theorem RpA.ints : ∀ ns : List Int, RpA K cm H (ns.map V.int) (ns.map DD.int)
  | [] => .nil
  | n :: ns => .cons (.int n) (RpA.ints ns)
theorem Rp.int_of {i : Int} {v : V} (h : Rp K cm H v (.int i)) : v = .int i := by cases h; rfl
theorem Rp.str_of {i : Str} {v : V} (h : Rp K cm H v (.str i)) : v = .str i := by cases h; rfl
theorem Rp.non_of {v : V} (h : Rp K cm H v .non) : v = .non := by cases h; rfl
theorem RpA.ints_of : ∀ {ns : List Int} {v : List V}, RpA K cm H v (ns.map DD.int) → v = ns.map V.int
  | [], _, .nil => rfl
  | n :: ns, _, .cons h r => by rw [h.int_of, RpA.ints_of r] <;> rfl
theorem RpA.strs_of : ∀ {ns : List Str} {v : List V}, RpA K cm H v (ns.map DD.str) → v = ns.map V.str
  | [], _, .nil => rfl
  | n :: ns, _, .cons h r => by rw [h.str_of, RpA.strs_of r] <;> rfl
end
/-- a thing that may change: a list, a dict, an object; one that is gone -/
inductive Nd where
  | lst (xs : List DD) | dK (kvs : List (Key × DD)) | obj (C : Str) (fs : List (Str × DD)) | gone | fz (d : DD) | dT (kvs : List (List Key × DD))
structure Tau where
  cells : List Int
  at' : Int
  left : Int
  st : List Nd := []
abbrev TS' := Option Tau
structure Ex where
  cls : Str
  fs : List (Str × DD)
inductive R (α : Type) where
  | ok (a : α) (τ : TS') | ex (x : Ex) (τ : TS') | no
def R.bind {α β : Type} : R α → (α → TS' → R β) → R β
  | .ok a τ, f => f a τ
  | .ex x τ, _ => .ex x τ
  | .no, _ => .no
def R.of {α : Type} (τ : TS') : Option α → R α
  | some a => .ok a τ
  | none => .no
@[simp] theorem R.bind_ok {α β : Type} (a : α) (τ : TS') (f : α → TS' → R β) : (R.ok a τ).bind f = f a τ := id rfl
@[simp] theorem R.bind_ex {α β : Type} (a : Ex) (τ : TS') (f : α → TS' → R β) : (R.ex a τ).bind f = .ex a τ := id rfl
@[simp] theorem R.bind_no {α β : Type} (f : α → TS' → R β) : (R.no).bind f = .no := id rfl
@[simp] theorem R.of_some {α : Type} (τ : TS') (a : α) : R.of τ (some a) = .ok a τ := id rfl
@[simp] theorem R.of_none {α : Type} (τ : TS') : (R.of τ none : R α) = .no := id rfl
/-- what a node of an owned tree is -/
inductive Kd where
  | lst | dK (ks : List Key) | obj (C : Str) (ns : List Str)
/-- an owned tree: its leaves stay as they are -/
inductive OT where
  | fr (d : DD) | nd (k : Kd) (ts : List OT)
inductive OC where
  | lst (xs : List DD) | dK (kvs : List (Key × DD)) | tr (k : Kd) (ts : List OT)
inductive PV where
  | fr (d : DD) | ow (c : OC) | tape | scr (ns : List Int) | fn (x : Str) | thk
abbrev PEnv := List (Option PV)
/-- what is fixed: the constants, the classes, how a tape lies -/
structure Wp where
  K : PySem.W.Frag
  cm : CM
  tk : Tau → Addr → HO
  T : List (Addr × Str) := []
  th : Option (Addr × Addr × Str × GH) := none
abbrev Wp.rp (W : Wp) := Rp W.K W.cm
def NodeAt (W : Wp) (H : Hp) (a : Addr) (vs : List V) : Kd → Prop
  | .lst => H a = some (.lst vs)
  | .dK ks => ks.length = vs.length ∧ H a = some (.dK (ks.zip vs))
  | .obj C ns => ns.length = vs.length ∧ ∃ dx, H a = some (.ins (W.cm C) dx (ns.zip vs))
mutual
/-- a value stands for an owned tree; F: the addresses of its nodes -/
inductive Ow (W : Wp) (G : GH) (H : Hp) : V → OT → List Addr → Prop
  | fr {v : V} {d : DD} : Rp W.K W.cm G v d → Ow W G H v (.fr d) []
  | nd {a : Addr} {k : Kd} {vs : List V} {ts : List OT} {F : List Addr} : NodeAt W H a vs k → OwA W G H vs ts F → a ∉ F → Ow W G H (.ref a) (.nd k ts) (a :: F)
inductive OwA (W : Wp) (G : GH) (H : Hp) : List V → List OT → List Addr → Prop
  | nil : OwA W G H [] [] []
  | cons {v : V} {t : OT} {vs : List V} {ts : List OT} {F F' : List Addr} : Ow W G H v t F → OwA W G H vs ts F' → (∀ p ∈ F, p ∉ F') → OwA W G H (v :: vs) (t :: ts) (F ++ F')
end
def OwR (W : Wp) (G : GH) (H : Hp) (a : Addr) : OC → List Addr → Prop
  | .lst xs, F => F = [a] ∧ ∃ vs, H a = some (.lst vs) ∧ RpA W.K W.cm G vs xs
  | .dK kvs, F => F = [a] ∧ ∃ vs, H a = some (.dK vs) ∧ RpK W.K W.cm G vs kvs
  | .tr k ts, F => Ow W G H (.ref a) (.nd k ts) F
section
variable {W : Wp} {G G' : GH} {H H' : Hp}
theorem NodeAt.keep {a : Addr} {vs : List V} {k : Kd} (h : NodeAt W H a vs k) (e : ∀ o, H a = some o → H' a = some o) : NodeAt W H' a vs k := by
  cases k with
  | lst => exact e _ h
  | dK ks => exact ⟨h.1, e _ h.2⟩
  | obj C ns => obtain ⟨l, dx, h⟩ := h; exact ⟨l, dx, e _ h⟩
theorem NodeAt.at {a : Addr} {vs : List V} {k : Kd} (h : NodeAt W H a vs k) : H a ≠ none := by
  cases k with
  | lst => rw [show H a = _ from h]; simp
  | dK ks => rw [h.2]; simp
  | obj C ns => obtain ⟨l, dx, h⟩ := h; rw [h]; simp
theorem zip_inj {α β : Type} : ∀ {ks : List α} {vs us : List β}, ks.length = vs.length → ks.length = us.length → ks.zip vs = ks.zip us → vs = us
  | [], [], [], _, _, _ => rfl
  | k :: ks, v :: vs, u :: us, h1, h2, e => by
    simp only [List.zip_cons_cons, List.cons.injEq, Prod.mk.injEq, true_and] at e
    rw [e.1, zip_inj (Nat.succ.inj h1) (Nat.succ.inj h2) e.2]
theorem NodeAt.uniq {a : Addr} {vs us : List V} {k : Kd} (h : NodeAt W H a vs k) (h' : NodeAt W H a us k) : vs = us := by
  cases k with
  | lst => have h : H a = _ := h; have h' : H a = _ := h'; rw [h] at h'; cases h'; rfl
  | dK ks =>
    have e := h.2.symm.trans h'.2
    simp only [Option.some.injEq, HO.dK.injEq] at e
    exact zip_inj h.1 h'.1 e
  | obj C ns =>
    obtain ⟨l, dx, h⟩ := h
    obtain ⟨l', dx', h'⟩ := h'
    have e := h.symm.trans h'
    simp only [Option.some.injEq, HO.ins.injEq] at e
    exact zip_inj l l' e.2.2
mutual
theorem Ow.keep : ∀ {v : V} {t : OT} {F : List Addr}, Ow W G H v t F → GS G G' → (∀ p ∈ F, ∀ o, H p = some o → H' p = some o) → Ow W G' H' v t F
  | _, _, _, .fr r, g, _ => .fr (Rp.mono g r)
  | _, _, _, .nd h r n, g, e => .nd (h.keep (e _ List.mem_cons_self)) (OwA.keep r g fun p hp => e p (List.mem_cons_of_mem _ hp)) n
theorem OwA.keep : ∀ {v : List V} {t : List OT} {F : List Addr}, OwA W G H v t F → GS G G' → (∀ p ∈ F, ∀ o, H p = some o → H' p = some o) → OwA W G' H' v t F
  | _, _, _, .nil, _, _ => .nil
  | _, _, _, .cons h r n, g, e => .cons (Ow.keep h g fun p hp => e p (List.mem_append_left _ hp)) (OwA.keep r g fun p hp => e p (List.mem_append_right _ hp)) n
end
mutual
theorem Ow.at : ∀ {v : V} {t : OT} {F : List Addr}, Ow W G H v t F → ∀ p ∈ F, H p ≠ none
  | _, _, _, .fr r, p, hp => by cases hp
  | _, _, _, .nd h r n, p, hp => by
    rcases List.mem_cons.mp hp with rfl | hp
    · exact h.at
    · exact OwA.at r p hp
theorem OwA.at : ∀ {v : List V} {t : List OT} {F : List Addr}, OwA W G H v t F → ∀ p ∈ F, H p ≠ none
  | _, _, _, .nil, p, hp => by cases hp
  | _, _, _, .cons h r n, p, hp => by
    rcases List.mem_append.mp hp with hp | hp
    · exact Ow.at h p hp
    · exact OwA.at r p hp
end
mutual
theorem Ow.uniq : ∀ {v : V} {t : OT} {F F' : List Addr}, Ow W G H v t F → Ow W G' H v t F' → F = F'
  | _, _, _, _, .fr _, .fr _ => rfl
  | _, _, _, _, .nd h r _, .nd h' r' _ => by
    cases h.uniq h'
    rw [OwA.uniq r r']
theorem OwA.uniq : ∀ {v : List V} {t : List OT} {F F' : List Addr}, OwA W G H v t F → OwA W G' H v t F' → F = F'
  | _, _, _, _, .nil, .nil => rfl
  | _, _, _, _, .cons h r _, .cons h' r' _ => by rw [Ow.uniq h h', OwA.uniq r r']
end
theorem OwR.keep {a : Addr} {c : OC} {F : List Addr} (h : OwR W G H a c F) (g : GS G G') (k : ∀ p ∈ F, ∀ o, H p = some o → H' p = some o) : OwR W G' H' a c F := by
  cases c with
  | lst xs => obtain ⟨rfl, vs, e, r⟩ := h; exact ⟨rfl, vs, k a (by simp) _ e, r.mono g⟩
  | dK xs => obtain ⟨rfl, vs, e, r⟩ := h; exact ⟨rfl, vs, k a (by simp) _ e, r.mono g⟩
  | tr q ts => exact Ow.keep (show Ow W G H _ _ _ from h) g k
theorem OwR.at {a : Addr} {c : OC} {F : List Addr} (h : OwR W G H a c F) : ∀ p ∈ F, H p ≠ none := by
  cases c with
  | lst xs => obtain ⟨rfl, vs, e, r⟩ := h; intro p hp; rw [List.mem_singleton.mp hp, e]; simp
  | dK xs => obtain ⟨rfl, vs, e, r⟩ := h; intro p hp; rw [List.mem_singleton.mp hp, e]; simp
  | tr q ts => exact Ow.at (show Ow W G H _ _ _ from h)
theorem OwR.mem {a : Addr} {c : OC} {F : List Addr} (h : OwR W G H a c F) : a ∈ F := by
  cases c with
  | lst xs => obtain ⟨rfl, _⟩ := h; simp
  | dK xs => obtain ⟨rfl, _⟩ := h; simp
  | tr q ts => cases (show Ow W G H _ _ _ from h) with | nd _ _ _ => exact List.mem_cons_self
theorem OwR.uniq {a : Addr} {c : OC} {F F' : List Addr} (h : OwR W G H a c F) (h' : OwR W G' H a c F') : F = F' := by
  cases c with
  | lst xs => rw [h.1, h'.1]
  | dK xs => rw [h.1, h'.1]
  | tr q ts => exact Ow.uniq (show Ow W G H _ _ _ from h) (show Ow W G' H _ _ _ from h')
end
/-- neither a table nor told by what is true of it -/
def _root_.PySem.L2.HO.nt : HO → Bool
  | .tbl _ => false
  | .ext _ => false
  | _ => true
def _root_.PySem.L2.HO.tb : HO → Bool
  | .tbl _ => true
  | _ => false
theorem nt_tb {o : HO} (h : o.nt = true) : o.tb = false := by cases o <;> first | rfl | cases h
def NT (H : Hp) (p : Addr) : Prop := ∃ o, H p = some o ∧ o.nt = true
theorem NodeAt.nt {W : Wp} {H : Hp} {a : Addr} {vs : List V} {k : Kd} (h : NodeAt W H a vs k) : NT H a := by
  cases k with
  | lst => exact ⟨_, h, rfl⟩
  | dK ks => exact ⟨_, h.2, rfl⟩
  | obj C ns => obtain ⟨l, dx, h⟩ := h; exact ⟨_, h, rfl⟩
mutual
theorem Ow.nt {W : Wp} {G : GH} {H : Hp} : ∀ {v : V} {t : OT} {F : List Addr}, Ow W G H v t F → ∀ p ∈ F, NT H p
  | _, _, _, .fr r, p, hp => by cases hp
  | _, _, _, .nd h r n, p, hp => by
    rcases List.mem_cons.mp hp with rfl | hp
    · exact h.nt
    · exact OwA.nt r p hp
theorem OwA.nt {W : Wp} {G : GH} {H : Hp} : ∀ {v : List V} {t : List OT} {F : List Addr}, OwA W G H v t F → ∀ p ∈ F, NT H p
  | _, _, _, .nil, p, hp => by cases hp
  | _, _, _, .cons h r n, p, hp => by
    rcases List.mem_append.mp hp with hp | hp
    · exact Ow.nt h p hp
    · exact OwA.nt r p hp
end
theorem OwR.nt {W : Wp} {G : GH} {H : Hp} {a : Addr} {c : OC} {F : List Addr} (h : OwR W G H a c F) : ∀ p ∈ F, NT H p := by
  cases c with
  | lst xs => obtain ⟨rfl, vs, e, r⟩ := h; intro p hp; rw [List.mem_singleton.mp hp]; exact ⟨_, e, rfl⟩
  | dK xs => obtain ⟨rfl, vs, e, r⟩ := h; intro p hp; rw [List.mem_singleton.mp hp]; exact ⟨_, e, rfl⟩
  | tr q ts => exact Ow.nt (show Ow W G H _ _ _ from h)
/-- what stays stands in the heap; the tables of code objects stand in no such part -/
structure SB (W : Wp) (G : GH) (H : Hp) : Prop where
  s : Same G.hp H
  t : LamX.Tabs W.T H
  n : ∀ p ∈ W.T, G.hp p.1 = none
instance {W : Wp} {G : GH} {H : Hp} : CoeFun (SB W G H) (fun _ => ∀ b o, G.hp b = some o → H b = some o) := ⟨fun h => h.s⟩
theorem SB.trans {W : Wp} {G : GH} {H H' : Hp} (g : SB W G H) (e : Same H H') : SB W G H' := ⟨g.s.trans e, g.t.ext e, g.n⟩
theorem SB.free {W : Wp} {G : GH} {H : Hp} (g : SB W G H) {l : Addr} (h : H l = none) : G.hp l = none := g.s.free h
theorem SB.seq {W : Wp} {G : GH} {H : Hp} {K : PySem.W.Frag} {a : Addr} {xs : List V} (g : SB W G H) (h : SqL K G.hp a xs) : SqL K H a xs := g.s.seq h
abbrev GH.on (G : GH) (H : Hp) : GH := ⟨H, G.ads⟩
theorem SB.gs {W : Wp} {G : GH} {H : Hp} (g : SB W G H) : GS G (G.on H) := ⟨g.s, List.prefix_rfl⟩
theorem GS.sb {W : Wp} {G G' : GH} {H : Hp} (e : GS G G') (g : SB W G' H) : SB W G H := ⟨e.s.trans g.s, g.t, fun p hp => e.free (g.n p hp)⟩
theorem SB.ntab {W : Wp} {G : GH} {H : Hp} (g : SB W G H) {p : Addr} (h : H p = none) : ∀ q ∈ W.T, q.1 ≠ p := fun q hq z => by
  obtain ⟨ps, e, _⟩ := g.t q hq
  rw [z, h] at e
  cases e
theorem SB.both {W : Wp} {G : GH} {H : Hp} {p : Addr} {o : HO} (g : SB W G H) (n : H p = none) : SB W (G.upd p o) (upd H p o) :=
  ⟨same_both g.s, g.t.ext (same_new n), fun q hq => by show upd G.hp p o q.1 = none; rw [upd_ne (g.ntab n q hq)]; exact g.n q hq⟩
theorem tabs_put {T : List (Addr × Str)} {H : Hp} {p : Addr} {o : HO} (t : LamX.Tabs T H) (nt : NT H p) : LamX.Tabs T (upd H p o) := fun q hq => by
  obtain ⟨u, hu, hn⟩ := nt
  obtain ⟨ps, h1, h2, h3⟩ := t q hq
  refine ⟨ps, by rw [upd_ne (fun z => by rw [z, hu] at h1; cases h1; cases hn)]; exact h1, h2, fun pos cv hc => ?_⟩
  obtain ⟨c, e, h⟩ := h3 pos cv hc
  exact ⟨c, e, by rw [upd_ne (fun z => by rw [z, hu] at h; unfold LamX.CodeO at h; cases h; cases hn)]; exact h⟩
/-- tables where what is no plain thing stays -/
theorem tabs_keep {T : List (Addr × Str)} {H H' : Hp} (t : LamX.Tabs T H) (h : ∀ p o, o.nt = false → H p = some o → H' p = some o) : LamX.Tabs T H' := fun q hq => by
  obtain ⟨ps, h1, h2, h3⟩ := t q hq
  refine ⟨ps, h _ _ rfl h1, h2, fun pos cv hc => ?_⟩
  obtain ⟨c, e, hh⟩ := h3 pos cv hc
  exact ⟨c, e, h _ _ rfl hh⟩
/-- a cell that is no table changes -/
theorem SB.put {W : Wp} {G : GH} {H : Hp} {p : Addr} {o : HO} (g : SB W G H) (n : G.hp p = none) (nt : NT H p) : SB W G (upd H p o) := ⟨same_mut g.s n, tabs_put g.t nt, g.n⟩
/-- p is none of the cells that may change -/
def NoM (tp : Option Addr) (G : GH) (p : Addr) : Prop := ∀ a, tp = some a → p ≠ a ∧ p ∉ G.ads
theorem NoM.none {G : GH} {p : Addr} : NoM none G p := fun a h => by cases h
theorem NoM.nt {tp : Option Addr} {G : GH} {p : Addr} (h : NoM tp G p) : tp ≠ some p := fun z => (h p z).1 rfl
/-- a dict's items, keys that are flat tuples -/
abbrev RpT (K : PySem.W.Frag) (cm : CM) (G : GH) : List (List Key × V) → List (List Key × DD) → Prop := Paired fun p q => p.1 = q.1 ∧ Rp K cm G p.2 q.2
theorem RpT.mono {K : PySem.W.Frag} {cm : CM} {G G' : GH} {vs : List (List Key × V)} {ds : List (List Key × DD)} (h : RpT K cm G vs ds) (e : GS G G') : RpT K cm G' vs ds := Paired.mapP h fun _ _ q => ⟨q.1, q.2.mono e⟩
def NdR (W : Wp) (G : GH) (H : Hp) (a : Addr) : Nd → Prop
  | .dT kvs => ∃ vs, H a = some (.dT vs) ∧ RpT W.K W.cm G vs kvs
  | .lst xs => ∃ vs, H a = some (.lst vs) ∧ RpA W.K W.cm G vs xs
  | .dK kvs => ∃ vs, H a = some (.dK vs) ∧ RpK W.K W.cm G vs kvs
  | .obj C fs => ∃ dx vs, H a = some (.ins (W.cm C) dx vs) ∧ RpF W.K W.cm G vs fs
  | .gone => NT H a
  | .fz d => NT H a ∧ Rp W.K W.cm G (.ref a) d
def Nd.isFz : Nd → Bool
  | .fz _ => true
  | _ => false
theorem NdR.nt {W : Wp} {G : GH} {H : Hp} {a : Addr} {nd : Nd} (h : NdR W G H a nd) : NT H a := by
  cases nd with
  | lst xs => obtain ⟨_, h, _⟩ := h; exact ⟨_, h, rfl⟩
  | dK xs => obtain ⟨_, h, _⟩ := h; exact ⟨_, h, rfl⟩
  | obj C fs => obtain ⟨_, _, h, _⟩ := h; exact ⟨_, h, rfl⟩
  | gone => exact h
  | fz d => exact h.1
  | dT xs => obtain ⟨_, h, _⟩ := h; exact ⟨_, h, rfl⟩
theorem NdR.keep {W : Wp} {G G' : GH} {H H' : Hp} {a : Addr} {nd : Nd} (h : NdR W G H a nd) (e : GS G G') (k : ∀ o, H a = some o → H' a = some o) : NdR W G' H' a nd := by
  cases nd with
  | lst xs => obtain ⟨vs, h, r⟩ := h; exact ⟨vs, k _ h, r.mono e⟩
  | dK xs => obtain ⟨vs, h, r⟩ := h; exact ⟨vs, k _ h, r.mono e⟩
  | obj C fs => obtain ⟨dx, vs, h, r⟩ := h; exact ⟨dx, vs, k _ h, r.mono e⟩
  | gone => obtain ⟨o, h, n⟩ := h; exact ⟨o, k _ h, n⟩
  | fz d => obtain ⟨⟨o, h, n⟩, r⟩ := h; exact ⟨⟨o, k _ h, n⟩, r.mono e⟩
  | dT xs => obtain ⟨vs, h, r⟩ := h; exact ⟨vs, k _ h, r.mono e⟩
/-- the things that may change -/
structure StR (W : Wp) (G : GH) (H : Hp) (tp : Addr) (st : List Nd) : Prop where
  l : st.length = G.ads.length
  d : G.ads.Nodup
  t : tp ∉ G.ads
  g : ∀ (k : Nat) (nd : Nd) (a : Addr), st[k]? = some nd → G.ads[k]? = some a → nd.isFz = false → G.hp a = none
  n : ∀ (k : Nat) (nd : Nd) (a : Addr), st[k]? = some nd → G.ads[k]? = some a → NdR W G H a nd
theorem StR.nt {W : Wp} {G : GH} {H : Hp} {tp : Addr} {st : List Nd} (h : StR W G H tp st) : ∀ a ∈ G.ads, NT H a := fun a ha => by
  obtain ⟨k, hk, e⟩ := List.mem_iff_getElem.mp ha
  have hl : k < st.length := by rw [h.l]; exact hk
  exact (h.n k st[k] a (List.getElem?_eq_getElem hl) (by rw [List.getElem?_eq_getElem hk, e])).nt
theorem StR.keep {W : Wp} {G G' : GH} {H H' : Hp} {tp : Addr} {st : List Nd} (h : StR W G H tp st) (e : GS G G') (za : G'.ads = G.ads) (g : ∀ a ∈ G.ads, G.hp a = none → G'.hp a = none) (k : ∀ a ∈ G.ads, ∀ o, H a = some o → H' a = some o) : StR W G' H' tp st :=
  ⟨by rw [za]; exact h.l, by rw [za]; exact h.d, by rw [za]; exact h.t, fun i nd a h1 h2 h3 => by rw [za] at h2; exact g a (List.mem_of_getElem? h2) (h.g i nd a h1 h2 h3), fun i nd a h1 h2 => (h.n i nd a h1 (by rw [za] at h2; exact h2)).keep e (k a (by rw [za] at h2; exact List.mem_of_getElem? h2))⟩
structure TapeR (W : Wp) (G : GH) (H : Hp) (tp : Addr) (τ : Tau) : Prop where
  g : G.hp tp = none
  c : ∃ c, G.hp c = some (.lst (τ.cells.map V.int)) ∧ H tp = some (W.tk τ c)
  n : NT H tp
  s : StR W G H tp τ.st
def TapeO (W : Wp) (G : GH) (H : Hp) : Option Addr → TS' → Prop
  | none, none => True
  | some a, some τ => TapeR W G H a τ
  | _, _ => False
/-- the lambda that a def got: what stood when it was made stands -/
def ThkR (W : Wp) (tp : Option Addr) (G : GH) (H : Hp) (v : V) : Prop := ∃ f c q g, W.th = some (f, c, q, g) ∧ v = .ref f ∧ GS g G ∧ NoM tp G c ∧ H c = some (LamX.CodeO c q)
theorem code_ne {H : Hp} {c p : Addr} {q : Str} (h : H c = some (LamX.CodeO c q)) (n : NT H p) : c ≠ p := fun z => by
  obtain ⟨u, hu, hn⟩ := n
  rw [← z, h] at hu
  cases hu
  cases hn
def SlotR (W : Wp) (tp : Option Addr) (G : GH) (H : Hp) : Option V → Option PV → Prop
  | _, none => True
  | some v, some (.fr d) => Rp W.K W.cm G v d
  | some v, some (.ow c) => ∃ a F, v = .ref a ∧ OwR W G H a c F ∧ ∀ p ∈ F, G.hp p = none ∧ NoM tp G p
  | some v, some .tape => ∃ a, tp = some a ∧ v = .ref a
  | some v, some (.scr ns) => ∃ a, v = .ref a ∧ SqL W.K G.hp a (ns.map V.int)
  | some v, some (.fn x) => v = .ref (W.cm x)
  | some v, some .thk => ThkR W tp G H v
  | _, _ => False
structure EnvV (W : Wp) (tp : Option Addr) (G : GH) (H : Hp) (σ : L2.St) (ρ : PEnv) (τ : TS') : Prop where
  g : SB W G H
  s : Paired (SlotR W tp G H) σ ρ
  d : ∀ (i j : Nat) (a b : Addr) (c c' : OC) (F F' : List Addr), ρ[i]? = some (some (PV.ow c)) → ρ[j]? = some (some (PV.ow c')) → σ[i]? = some (some (V.ref a)) → σ[j]? = some (some (V.ref b)) → OwR W G H a c F → OwR W G H b c' F' → ∀ p, p ∈ F → p ∈ F' → i = j
  t : TapeO W G H tp τ
structure Ext (tp : Option Addr) (G : GH) (H : Hp) (G' : GH) (H' : Hp) : Prop where
  g : GS G G'
  h : ∀ p o, NoM tp G p → o.tb = false → H p = some o → H' p = some o
  f : ∀ p, NoM tp G p → H p ≠ none → G.hp p = none → G'.hp p = none
  x : ∀ p, H p ≠ none → H' p ≠ none
  w : ∀ p ∈ G'.ads, p ∈ G.ads ∨ H p = none
  z : tp = none → G'.ads = G.ads
theorem Ext.nom {tp : Option Addr} {G G' : GH} {H H' : Hp} (e : Ext tp G H G' H') {p : Addr} (h : NoM tp G p) (n : H p ≠ none) : NoM tp G' p := fun a ha => ⟨(h a ha).1, fun z => (e.w p z).elim (h a ha).2 n⟩
theorem Paired.getL {α β : Type} {F : α → β → Prop} : ∀ {xs : List α} {ys : List β} {i : Nat} {y : β}, Paired F xs ys → ys[i]? = some y → ∃ x, xs[i]? = some x ∧ F x y
  | _, _, _, _, .nil, e => by simp at e
  | _, _, 0, _, .cons h _, e => by simp at e; subst e; exact ⟨_, rfl, h⟩
  | _, _, i + 1, _, .cons _ r, e => by
    obtain ⟨u, h1, h2⟩ := Paired.getL (i := i) r (by simpa using e)
    exact ⟨u, by simpa using h1, h2⟩
theorem Paired.setL {α β : Type} {F : α → β → Prop} {x : α} {y : β} (h : F x y) : ∀ {xs : List α} {ys : List β} (i : Nat), Paired F xs ys → Paired F (xs.set i x) (ys.set i y)
  | _, _, _, .nil => .nil
  | _, _, 0, .cons _ t => .cons h t
  | _, _, i + 1, .cons q t => .cons q (Paired.setL h i t)
/-- each pair may use where it stands -/
theorem Paired.mapI {α β : Type} {F F' : α → β → Prop} : ∀ {xs : List α} {ys : List β}, Paired F xs ys → (∀ (i : Nat) x y, xs[i]? = some x → ys[i]? = some y → F x y → F' x y) → Paired F' xs ys
  | _, _, .nil, _ => .nil
  | _, _, .cons h t, k => .cons (k 0 _ _ rfl rfl h) (Paired.mapI t fun i x y a b c => k (i + 1) x y (by simpa using a) (by simpa using b) c)
section
variable {W : Wp} {tp : Option Addr} {G G' G2 : GH} {H H' H2 : Hp} {σ : L2.St} {ρ : PEnv} {τ τ' : TS'} {o : HO}
theorem Ext.refl : Ext tp G H G H := ⟨GS.refl _, fun _ _ _ _ h => h, fun _ _ _ h => h, fun _ h => h, fun _ h => .inl h, fun _ => rfl⟩
theorem Ext.trans (e : Ext tp G H G' H') (e' : Ext tp G' H' G2 H2) : Ext tp G H G2 H2 := by
  refine ⟨e.g.trans e'.g, fun p o n t h => e'.h p o (e.nom n (by rw [h]; simp)) t (e.h p o n t h), fun p n hp hg => e'.f p (e.nom n hp) (e.x p hp) (e.f p n hp hg), fun p h => e'.x p (e.x p h), fun p hp => ?_, fun h => (e'.z h).trans (e.z h)⟩
  rcases e'.w p hp with h | h
  · exact e.w p h
  · exact .inr (by
      cases z : H p with
      | none => rfl
      | some o => exact (e.x p (by rw [z]; simp) h).elim)
theorem Ext.weak (e : Ext none G H G' H') : Ext tp G H G' H' := ⟨e.g, fun p o _ => e.h p o NoM.none, fun p _ => e.f p NoM.none, e.x, e.w, fun _ => e.z rfl⟩
/-- all stays -/
theorem Ext.ofS (g : GS G G') (h : Same H H') (f : ∀ p, H p ≠ none → G.hp p = none → G'.hp p = none) (za : G'.ads = G.ads) : Ext tp G H G' H' :=
  ⟨g, fun p o _ _ => h p o, fun p _ => f p, fun p hp => by
    cases z : H p with
    | none => exact (hp z).elim
    | some o => rw [h p o z]; simp, fun p hp => .inl (by rw [← za]; exact hp), fun _ => za⟩
theorem Ext.new {p : Addr} (n : H p = none) (g : SB W G H) : Ext tp G H (G.upd p o) (upd H p o) :=
  Ext.ofS (GS.new (g.free n)) (same_new n) (fun q h hg => by
    show upd G.hp p o q = none
    rw [upd_ne (fun z => h (by rw [z]; exact n))]; exact hg) rfl
theorem Ext.newH {p : Addr} (n : H p = none) : Ext tp G H G (upd H p o) := Ext.ofS (GS.refl _) (same_new n) (fun q _ hg => hg) rfl
theorem OwR.some {a : Addr} {c : OC} {F : List Addr} (w : OwR W G H a c F) {p : Addr} (hp : p ∈ F) : H p ≠ none := w.at p hp
/-- an owned thing is kept -/
theorem OwR.ext {a : Addr} {c : OC} {F : List Addr} (w : OwR W G H a c F) (gn : ∀ p ∈ F, G.hp p = none ∧ NoM tp G p) (e : Ext tp G H G' H') : OwR W G' H' a c F :=
  w.keep e.g fun p hp o h => by
    obtain ⟨u, hu, hn⟩ := w.nt p hp
    rw [h] at hu
    cases hu
    exact e.h p o (gn p hp).2 (nt_tb hn) h
theorem SlotR.ext {v : Option V} {p : Option PV} (h : SlotR W tp G H v p) (e : Ext tp G H G' H') : SlotR W tp G' H' v p := by
  match v, p, h with
  | _, none, _ => trivial
  | some v, some (.fr d), h => exact Rp.mono e.g h
  | some v, some (.ow c), ⟨a, F, r, w, gn⟩ => exact ⟨a, F, r, w.ext gn e, fun p hp => ⟨e.f p (gn p hp).2 (w.at p hp) (gn p hp).1, e.nom (gn p hp).2 (w.at p hp)⟩⟩
  | some v, some .tape, h => exact h
  | some v, some (.scr ns), ⟨a, r, q⟩ => exact ⟨a, r, e.g.seq q⟩
  | some v, some (.fn x), h => exact h
  | some v, some .thk, ⟨f, c, q, g, a, b, s, n, h⟩ => exact ⟨f, c, q, g, a, b, s.trans e.g, e.nom n (by rw [h]; simp), e.h c _ n rfl h⟩
/-- the owned thing of a slot -/
theorem EnvV.own {i : Nat} {a : Addr} {c : OC} (E : EnvV W tp G H σ ρ τ) (hi : ρ[i]? = some (some (PV.ow c))) (ha : σ[i]? = some (some (V.ref a))) : ∃ F, OwR W G H a c F ∧ ∀ p ∈ F, G.hp p = none ∧ NoM tp G p := by
  obtain ⟨v, h1, h2⟩ := Paired.getL E.s hi
  rw [ha] at h1
  cases h1
  obtain ⟨b, F, r, w, gn⟩ := h2
  cases r
  exact ⟨F, w, gn⟩
theorem EnvV.ownS {i : Nat} {c : OC} (E : EnvV W tp G H σ ρ τ) (hi : ρ[i]? = some (some (PV.ow c))) : ∃ a F, σ[i]? = some (some (V.ref a)) ∧ OwR W G H a c F ∧ ∀ p ∈ F, G.hp p = none ∧ NoM tp G p := by
  obtain ⟨v, h1, h2⟩ := Paired.getL E.s hi
  cases v with
  | none => exact h2.elim
  | some v =>
    obtain ⟨b, F, rfl, w, gn⟩ := h2
    exact ⟨b, F, h1, w, gn⟩
/-- what is owned later with F was owned with F -/
theorem EnvV.back {i : Nat} {a : Addr} {c : OC} {F : List Addr} (E : EnvV W tp G H σ ρ τ) (g : GS G G') (k : ∀ p o, (∀ F0, OwR W G H a c F0 → p ∈ F0) → H p = some o → H' p = some o) (hi : ρ[i]? = some (some (PV.ow c))) (ha : σ[i]? = some (some (V.ref a))) (w : OwR W G' H' a c F) : OwR W G H a c F := by
  obtain ⟨F0, w0, gn⟩ := E.own hi ha
  have w1 : OwR W G' H' a c F0 := w0.keep g fun p hp o => k p o fun F1 w1 => by rw [w1.uniq w0]; exact hp
  rw [w.uniq w1]
  exact w0
theorem EnvV.backE {i : Nat} {a : Addr} {c : OC} {F : List Addr} (E : EnvV W tp G H σ ρ τ) (e : Ext tp G H G' H') (hi : ρ[i]? = some (some (PV.ow c))) (ha : σ[i]? = some (some (V.ref a))) (w : OwR W G' H' a c F) : OwR W G H a c F := by
  obtain ⟨F0, w0, gn⟩ := E.own hi ha
  rw [w.uniq (w0.ext gn e)]
  exact w0
theorem EnvV.ext (E : EnvV W tp G H σ ρ τ) (e : Ext tp G H G' H') (g : SB W G' H') (t : TapeO W G' H' tp τ') : EnvV W tp G' H' σ ρ τ' :=
  ⟨g, Paired.mapI E.s fun _ _ _ _ _ h => h.ext e, fun i j a b c c' F F' h1 h2 h3 h4 w w' => E.d i j a b c c' F F' h1 h2 h3 h4 (E.backE e h1 h3 w) (E.backE e h2 h4 w'), t⟩
theorem Ext.kn (e : Ext none G H G' H') {p : Addr} (n : NT H p) : ∀ o, H p = some o → H' p = some o := fun o h => by
  obtain ⟨u, hu, hn⟩ := n
  rw [h] at hu
  cases hu
  exact e.h p o NoM.none (nt_tb hn) h
theorem TapeR.ext {a : Addr} {τ : Tau} (t : TapeR W G H a τ) (e : Ext none G H G' H') : TapeR W G' H' a τ := by
  obtain ⟨g, ⟨c, s, h⟩, n, st⟩ := t
  refine ⟨e.f a NoM.none (by rw [h]; simp) g, ⟨c, e.g.s _ _ s, e.kn n _ h⟩, ?_, st.keep e.g (e.z rfl) (fun b hb z => e.f b NoM.none (by obtain ⟨o, z, _⟩ := st.nt b hb; rw [z]; simp) z) fun b hb => e.kn (st.nt b hb)⟩
  obtain ⟨o, z, q⟩ := n
  exact ⟨o, e.kn ⟨o, z, q⟩ o z, q⟩
theorem TapeO.ext (t : TapeO W G H tp τ) (e : Ext none G H G' H') : TapeO W G' H' tp τ := by
  match tp, τ, t with
  | none, none, _ => trivial
  | some a, some τ, t => exact TapeR.ext t e
theorem TapeR.put {a p : Addr} {τ : Tau} (t : TapeR W G H a τ) (n : p ≠ a ∧ p ∉ G.ads) : TapeR W G (upd H p o) a τ := by
  obtain ⟨g, ⟨c, s, h⟩, ⟨u, hu, hn⟩, st⟩ := t
  exact ⟨g, ⟨c, s, by rw [upd_ne (fun z => n.1 z.symm)]; exact h⟩, ⟨u, by rw [upd_ne (fun z => n.1 z.symm)]; exact hu, hn⟩, st.keep (GS.refl _) rfl (fun _ _ z => z) fun b hb u h => by rw [upd_ne (fun z => n.2 (by rw [← z]; exact hb))]; exact h⟩
theorem TapeO.put {p : Addr} (t : TapeO W G H tp τ) (n : NoM tp G p) : TapeO W G (upd H p o) tp τ := by
  match tp, τ, t, n with
  | none, none, _, _ => trivial
  | some a, some τ, t, n => exact TapeR.put t (n a rfl)
theorem GS.frz {F : GH} (e : Same G.hp F.hp) (za : F.ads = G.ads) : GS G F := ⟨e, by rw [za]; exact List.prefix_rfl⟩
theorem SB.frz {p : Addr} (g : SB W G H) (h : H p = some o) (t : o.tb = false) : SB W (G.upd p o) H := by
  refine ⟨fun q u hq => ?_, g.t, fun q hq => ?_⟩
  · have hq : upd G.hp p o q = some u := hq
    by_cases z : q = p
    · rw [z, upd_same] at hq
      rw [z, h, hq]
    · rw [upd_ne z] at hq
      exact g.s q u hq
  · obtain ⟨ps, e, _⟩ := g.t q hq
    show upd G.hp p o q.1 = none
    rw [upd_ne (fun z => by rw [z, h] at e; cases e; cases t)]
    exact g.n q hq
/-- some of what may not change stays from now on -/
theorem TapeO.frz {F : GH} (t : TapeO W G H tp τ) (e : Same G.hp F.hp) (za : F.ads = G.ads) (n : ∀ p, G.hp p = none → (∀ a, tp = some a → p = a ∨ p ∈ G.ads) → F.hp p = none ∨ tp = none) : TapeO W F H tp τ := by
  match tp, τ, t, n with
  | none, none, _, _ => trivial
  | some a, some τ, t, n =>
    obtain ⟨g, ⟨c, s, h⟩, u, st⟩ := t
    have n1 : ∀ p, G.hp p = none → (p = a ∨ p ∈ G.ads) → F.hp p = none := fun p h1 h2 => (n p h1 fun b hb => by cases hb; exact h2).elim id fun z => by cases z
    exact ⟨n1 a g (.inl rfl), ⟨c, e _ _ s, h⟩, u, st.keep (GS.frz e za) za (fun b hb z => n1 b z (.inr hb)) fun b hb u h => h⟩
theorem TapeO.frz1 {p : Addr} (t : TapeO W G H tp τ) (g : G.hp p = none) (n : NoM tp G p) : TapeO W (G.upd p o) H tp τ :=
  t.frz (same_new g) rfl fun q hq hm => by
    cases tp with
    | none => exact .inr rfl
    | some a =>
      refine .inl ?_
      show upd G.hp p o q = none
      rw [upd_ne (fun z => by rcases hm a rfl with h | h; exact (n a rfl).1 (by rw [← z]; exact h); exact (n a rfl).2 (by rw [← z]; exact h))]
      exact hq
/-- what only grows -/
theorem EnvV.grow (E : EnvV W tp G H σ ρ τ) (e : Ext none G H G' H') (g : SB W G' H') : EnvV W tp G' H' σ ρ τ := E.ext e.weak g (E.t.ext e)
theorem EnvV.new {p : Addr} (E : EnvV W tp G H σ ρ τ) (n : H p = none) : EnvV W tp (G.upd p o) (upd H p o) σ ρ τ := E.grow (Ext.new n E.g) (E.g.both n)
theorem TapeO.noM {p : Addr} (t : TapeO W G H tp τ) (n : H p = none) : NoM tp G p := fun a ha => by
  subst ha
  cases τ with
  | none => exact t.elim
  | some τ =>
    have t : TapeR W G H a τ := t
    obtain ⟨u, hu, _⟩ := t.n
    refine ⟨fun z => (by rw [← z, n] at hu; cases hu), fun z => ?_⟩
    obtain ⟨u, hu, _⟩ := t.s.nt p z
    rw [n] at hu
    cases hu
theorem EnvV.noM {p : Addr} (E : EnvV W tp G H σ ρ τ) (n : H p = none) : NoM tp G p := E.t.noM n
theorem EnvV.newH {p : Addr} (E : EnvV W tp G H σ ρ τ) (n : H p = none) : EnvV W tp G (upd H p o) σ ρ τ := E.grow (Ext.newH n) (E.g.trans (same_new n))
end
section
variable (W : Wp) (Wx : L2.St → XK) {α β : Type} (rel : Option Addr → GH → β → α → Prop)
/-- an exception has come -/
def ExR (G : GH) (H : Hp) (x : Ex) (d : Option Addr) : Prop := ∃ vs, XdAt G.hp d vs ∧ RpF W.K W.cm G vs x.fs
def Pg (tp : Option Addr) (σ : L2.St) (ρ : PEnv) (G : GH) (H : Hp) (Q : β → Hp → Prop) : R α → Prop
  | .ok a τ => ∀ b G' H', Ext tp G H G' H' → EnvV W tp G' H' σ ρ τ → rel tp G' b a → Q b H'
  | .ex x τ => ∀ d G' H', Ext tp G H G' H' → EnvV W tp G' H' σ ρ τ → ExR W G' H' x d → Wx σ (.ref (W.cm x.cls)) d H'
  | .no => False
def DnG (t : L2.St → Hp → (β → Hp → Prop) → Prop) (δ : PEnv → TS' → R α) : Prop :=
  ∀ tp G H σ ρ τ (Q : β → Hp → Prop), EnvV W tp G H σ ρ τ → Pg W Wx rel tp σ ρ G H Q (δ ρ τ) → t σ H Q
end
section
variable {W : Wp} {Wx : L2.St → XK} {α β α' β' : Type} {rel : Option Addr → GH → β → α → Prop} {rel' : Option Addr → GH → β' → α' → Prop}
variable {tp : Option Addr} {G G' : GH} {H H' : Hp} {σ : L2.St} {ρ : PEnv} {τ : TS'} {Q : β' → Hp → Prop} {Q' : β → Hp → Prop} {r : R α} {f : α → TS' → R α'}
theorem Pg.shift {r : R α'} (P : Pg W Wx rel' tp σ ρ G H Q r) (e : Ext tp G H G' H') : Pg W Wx rel' tp σ ρ G' H' Q r := by
  cases r with
  | ok a τ => exact fun b G2 H2 e2 => P b G2 H2 (e.trans e2)
  | ex x τ => exact fun d G2 H2 e2 => P d G2 H2 (e.trans e2)
  | no => exact P
theorem Pg.bind (P : Pg W Wx rel' tp σ ρ G H Q (r.bind f))
    (k : ∀ a τ1 b G1 H1, Ext tp G H G1 H1 → EnvV W tp G1 H1 σ ρ τ1 → rel tp G1 b a → Pg W Wx rel' tp σ ρ G1 H1 Q (f a τ1) → Q' b H1) : Pg W Wx rel tp σ ρ G H Q' r := by
  cases r with
  | ok a τ => exact fun b G2 H2 e2 E2 r2 => k a τ b G2 H2 e2 E2 r2 (Pg.shift (r := f a τ) P e2)
  | ex x τ => exact P
  | no => exact P
theorem Pg.ret {r : R α'} {a : α'} {b : β'} (e : r = .ok a τ) (P : Pg W Wx rel' tp σ ρ G H Q r) (E : EnvV W tp G H σ ρ τ) (h : rel' tp G b a) : Q b H := by
  subst e
  exact P b G H Ext.refl E h
end
abbrev rE (W : Wp) : Option Addr → GH → V → DD → Prop := fun _ G v d => Rp W.K W.cm G v d
abbrev rT : Option Addr → GH → Bool → Bool → Prop := fun _ _ b c => b = c
abbrev rA (W : Wp) : Option Addr → GH → List V → List DD → Prop := fun _ G v d => RpA W.K W.cm G v d
def ArgR (W : Wp) (tp : Option Addr) (G : GH) (v : V) : PV → Prop
  | .fr d => Rp W.K W.cm G v d
  | .tape => ∃ a, tp = some a ∧ v = .ref a
  | .ow _ => False
  | .scr ns => ∃ a, v = .ref a ∧ SqL W.K G.hp a (ns.map V.int)
  | .fn x => v = .ref (W.cm x)
  | .thk => False
abbrev rP (W : Wp) : Option Addr → GH → V → PV → Prop := fun tp G v d => ArgR W tp G v d
abbrev rPs (W : Wp) : Option Addr → GH → List V → List PV → Prop := fun tp G v d => Paired (ArgR W tp G) v d
abbrev DE := PEnv → TS' → R DD
abbrev DT := PEnv → TS' → R Bool
abbrev DA := PEnv → TS' → R (List DD)
abbrev DP := PEnv → TS' → R PV
abbrev DPs := PEnv → TS' → R (List PV)
abbrev Dn (W : Wp) (Wx : L2.St → XK) (t : TE) (δ : DE) : Prop := DnG W Wx (rE W) t δ
abbrev DnT (W : Wp) (Wx : L2.St → XK) (t : TT) (δ : DT) : Prop := DnG W Wx rT t δ
abbrev DnA (W : Wp) (Wx : L2.St → XK) (t : TA) (δ : DA) : Prop := DnG W Wx (rA W) t δ
abbrev DnPs (W : Wp) (Wx : L2.St → XK) (t : TA) (δ : DPs) : Prop := DnG W Wx (rPs W) t δ
abbrev DnP (W : Wp) (Wx : L2.St → XK) (t : TE) (δ : DP) : Prop := DnG W Wx (rP W) t δ
def dC (d : DD) : DE := fun _ τ => .ok d τ
def dV (i : Nat) : DE := fun ρ τ => match ρ[i]? with
  | some (some (.fr d)) => .ok d τ
  | _ => .no
def dOp (g : DD → DD → Option DD) (a b : DE) : DE := fun ρ τ => (a ρ τ).bind fun x τ1 => (b ρ τ1).bind fun y τ2 => R.of τ2 (g x y)
def dUn (g : DD → Option DD) (a : DE) : DE := fun ρ τ => (a ρ τ).bind fun x τ1 => R.of τ1 (g x)
/-- an operator's reading answers g -/
def OpD (W : Wp) (r : R2) (g : DD → DD → Option DD) : Prop := ∀ (G : GH) (H : Hp) (x y : V) (a b c : DD) (Q : VK), SB W G H → Rp W.K W.cm G x a → Rp W.K W.cm G y b → g a b = some c →
  (∀ v G' H', Ext none G H G' H' → SB W G' H' → Rp W.K W.cm G' v c → Q v H') → r x y H Q
def CallD (W : Wp) (r : List V → Hp → VK → Prop) (g : List DD → Option DD) : Prop := ∀ (G : GH) (H : Hp) (x : List V) (a : List DD) (c : DD) (Q : VK), SB W G H → RpA W.K W.cm G x a → g a = some c →
  (∀ v G' H', Ext none G H G' H' → SB W G' H' → Rp W.K W.cm G' v c → Q v H') → r x H Q
section
variable {W : Wp} {Wx : L2.St → XK} {ta tb : TE} {δa δb : DE}
theorem dn_c {v : V} {d : DD} (h : ∀ G, Rp W.K W.cm G v d) : Dn W Wx (tC v) (dC d) := fun tp G H σ ρ τ Q E P => P v G H Ext.refl E (h G)
theorem dn_int {i : Int} : Dn W Wx (tC (.int i)) (dC (.int i)) := dn_c fun _ => .int i
theorem dn_str {i : Str} : Dn W Wx (tC (.str i)) (dC (.str i)) := dn_c fun _ => .str i
theorem dn_bl {i : Bool} : Dn W Wx (tC (.bl i)) (dC (.bl i)) := dn_c fun _ => .bl i
theorem dn_non : Dn W Wx (tC .non) (dC .non) := dn_c fun _ => .non
theorem dn_v {i : Nat} : Dn W Wx (tVar i) (dV i) := fun tp G H σ ρ τ Q E P => by
  unfold dV at P
  split at P
  · rename_i d e
    obtain ⟨x, h1, h2⟩ := Paired.getL E.s e
    cases x with
    | none => exact h2.elim
    | some v => exact ⟨v, h1, P v G H Ext.refl E h2⟩
  · exact P.elim
theorem Pg.of {α β : Type} {rel : Option Addr → GH → β → α → Prop} {tp : Option Addr} {G : GH} {H : Hp} {σ : L2.St} {ρ : PEnv} {τ : TS'} {Q : β → Hp → Prop} {o : Option α} (P : Pg W Wx rel tp σ ρ G H Q (R.of τ o)) : ∃ a, o = some a ∧ Pg W Wx rel tp σ ρ G H Q (.ok a τ) := by
  cases o with
  | none => exact P.elim
  | some a => exact ⟨a, rfl, P⟩
theorem dn_op {r : R2} {g : DD → DD → Option DD} (ho : OpD W r g) (ha : Dn W Wx ta δa) (hb : Dn W Wx tb δb) : Dn W Wx (tOp r ta tb) (dOp g δa δb) := fun tp G H σ ρ τ Q E P =>
  ha _ _ _ _ _ _ _ E (P.bind fun a τ1 x G1 H1 e1 E1 r1 P1 => hb _ _ _ _ _ _ _ E1 (P1.bind fun b τ2 y G2 H2 e2 E2 r2 P2 => by
    obtain ⟨c, hc, P3⟩ := P2.of
    exact ho G2 H2 x y a b c Q E2.g (Rp.mono e2.g r1) r2 hc fun v G3 H3 e3 g3 r3 => P3 v G3 H3 e3.weak (E2.grow e3 g3) r3))
end
end Np
set_option Elab.async false
set_option linter.all false
set_option maxRecDepth 100000
set_option maxHeartbeats 4000000
namespace Np
open PySem PySem.Spec PyProof.Rows L2
def oInt (g : Int → Int → Option DD) : DD → DD → Option DD
  | .int i, .int j => g i j
  | _, _ => none
def oStr (g : Str → Str → Option DD) : DD → DD → Option DD
  | .str i, .str j => g i j
  | _, _ => none
instance (i j : Int) : Decidable (CMul i j) := by unfold CMul; infer_instance
instance (i j : Int) : Decidable (CDiv i j) := by unfold CDiv; infer_instance
instance (i j : Int) : Decidable (CDivN i j) := by unfold CDivN; infer_instance
instance (i j : Int) : Decidable (CPow i j) := by unfold CPow; infer_instance
theorem ext_n {G : GH} {H : Hp} : Ext none G H G H := Ext.refl
section
variable {W : Wp}
theorem od_I0 {f : Int → Int → V} {g : Int → Int → DD} (h : ∀ i j G, Rp W.K W.cm G (f i j) (g i j)) : OpD W (rI0 f) (oInt fun i j => some (g i j)) := by
  intro G H x y a b c Q s ra rb e k
  cases a <;> cases b <;> first | (cases e; done) | skip
  rename_i i j
  cases e
  exact ⟨i, j, ra.int_of, rb.int_of, k _ G H ext_n s (h i j G)⟩
theorem od_I {C : Int → Int → Prop} [∀ i j, Decidable (C i j)] {f : Int → Int → V} {g : Int → Int → DD} (h : ∀ i j G, Rp W.K W.cm G (f i j) (g i j)) : OpD W (rI C f) (oInt fun i j => if C i j then some (g i j) else none) := by
  intro G H x y a b c Q s ra rb e k
  cases a <;> cases b <;> first | (cases e; done) | skip
  rename_i i j
  have e : (if C i j then some (g i j) else none) = some c := e
  split at e
  · rename_i hc
    cases e
    exact ⟨i, j, ra.int_of, rb.int_of, hc, k _ G H ext_n s (h i j G)⟩
  · cases e
abbrev gAdd := oInt fun i j => some (.int (i + j))
abbrev gSub := oInt fun i j => some (.int (i - j))
abbrev gMul := oInt fun i j => if CMul i j then some (.int (i * j)) else none
abbrev gFdiv := oInt fun i j => if CDiv i j then some (.int (i / j)) else none
abbrev gFdivN := oInt fun i j => if CDivN i j then some (.int (i.fdiv j)) else none
abbrev gMod := oInt fun i j => if 0 < j then some (.int (i % j)) else none
abbrev gPow := oInt fun i j => if CPow i j then some (.int (i ^ j.toNat)) else none
abbrev gLt := oInt fun i j => some (.bl (decide (i < j)))
abbrev gLe := oInt fun i j => some (.bl (decide (i ≤ j)))
abbrev gGt := oInt fun i j => some (.bl (decide (j < i)))
abbrev gGe := oInt fun i j => some (.bl (decide (j ≤ i)))
theorem od_add : OpD W (rI0 fun i j => .int (i + j)) gAdd := od_I0 fun _ _ _ => .int _
theorem od_sub : OpD W (rI0 fun i j => .int (i - j)) gSub := od_I0 fun _ _ _ => .int _
theorem od_mul : OpD W (rI CMul fun i j => .int (i * j)) gMul := od_I fun _ _ _ => .int _
theorem od_fdiv : OpD W (rI CDiv fun i j => .int (i / j)) gFdiv := od_I fun _ _ _ => .int _
theorem od_fdivN : OpD W (rI CDivN fun i j => .int (i.fdiv j)) gFdivN := od_I fun _ _ _ => .int _
theorem od_mod : OpD W (rI (fun _ j => 0 < j) fun i j => .int (i % j)) gMod := od_I fun _ _ _ => .int _
theorem od_pow : OpD W (rI CPow fun i j => .int (i ^ j.toNat)) gPow := od_I fun _ _ _ => .int _
theorem od_lt : OpD W (rI0 fun i j => .bl (decide (i < j))) gLt := od_I0 fun _ _ _ => .bl _
theorem od_le : OpD W (rI0 fun i j => .bl (decide (i ≤ j))) gLe := od_I0 fun _ _ _ => .bl _
theorem od_gt : OpD W (rI0 fun i j => .bl (decide (j < i))) gGt := od_I0 fun _ _ _ => .bl _
theorem od_ge : OpD W (rI0 fun i j => .bl (decide (j ≤ i))) gGe := od_I0 fun _ _ _ => .bl _
abbrev gCatS := oStr fun i j => if i.length + j.length ≤ sizeLine then some (.str (i ++ j)) else none
theorem od_add_str : OpD W (fun x y H Q => ∃ i j, x = .str i ∧ y = .str j ∧ i.length + j.length ≤ sizeLine ∧ Q (.str (i ++ j)) H) gCatS := by
  intro G H x y a b c Q s ra rb e k
  cases a <;> cases b <;> first | (cases e; done) | skip
  rename_i i j
  have e : (if i.length + j.length ≤ sizeLine then some (DD.str (i ++ j)) else none) = some c := e
  split at e
  · rename_i hc
    cases e
    exact ⟨i, j, ra.str_of, rb.str_of, hc, k _ G H ext_n s (.str _)⟩
  · cases e
instance (z : Str) (n : Int) : Decidable (MulOk z n) := by unfold MulOk; infer_instance
def gMulS : DD → DD → Option DD
  | .str z, .int n => if MulOk z n then some (.str (Txt.mul z n)) else none
  | _, _ => none
theorem od_mulS : OpD W (fun x y H Q => ∃ (z : Str) (n : Int), x = .str z ∧ y = .int n ∧ MulOk z n ∧ Q (.str (Txt.mul z n)) H) gMulS := by
  intro G H x y a b c Q s ra rb e k
  unfold gMulS at e
  split at e
  · rename_i z n
    split at e
    · rename_i hc
      cases e
      exact ⟨z, n, ra.str_of, rb.int_of, hc, k _ G H ext_n s (.str _)⟩
    · cases e
  · cases e
def gEq (neg : Bool) : DD → DD → Option DD
  | .int i, .int j => some (.bl (if neg then !decide (i = j) else decide (i = j)))
  | .str i, .str j => some (.bl (if neg then !decide (i = j) else decide (i = j)))
  | .bl i, .bl j => some (.bl (if neg then !decide (i = j) else decide (i = j)))
  | .non, .non => some (.bl (!neg))
  | .non, .int _ => some (.bl neg)
  | .int _, .non => some (.bl neg)
  | .non, .bl _ => some (.bl neg)
  | .bl _, .non => some (.bl neg)
  | .non, .str _ => some (.bl neg)
  | .str _, .non => some (.bl neg)
  | .int _, .str _ => some (.bl neg)
  | .str _, .int _ => some (.bl neg)
  | .bl _, .str _ => some (.bl neg)
  | .str _, .bl _ => some (.bl neg)
  | _, _ => none
theorem od_eq : OpD W rEq (gEq false) := by
  intro G H x y a b c Q s ra rb e k
  unfold gEq at e
  split at e <;> first | (cases e; done) | skip
  all_goals
    cases e
    cases ra
    cases rb
    refine ⟨rfl, ?_⟩
    have q := k _ G H ext_n s (.bl _)
    simpa using q
theorem od_ne : OpD W rNe (gEq true) := by
  intro G H x y a b c Q s ra rb e k
  unfold gEq at e
  split at e <;> first | (cases e; done) | skip
  all_goals
    cases e
    cases ra
    cases rb
    refine ⟨rfl, ?_⟩
    have q := k _ G H ext_n s (.bl _)
    simpa using q
def gIsN (neg : Bool) : DD → DD → Option DD
  | .non, .non => some (.bl (!neg))
  | _, .non => some (.bl neg)
  | _, _ => none
theorem od_isN : OpD W (fun x y H Q => y = .non ∧ Q (.bl (decide (x = .non))) H) (gIsN false) := by
  intro G H x y a b c Q s ra rb e k
  unfold gIsN at e
  split at e <;> first | (cases e; done) | skip
  · cases e; cases ra; cases rb
    exact ⟨rfl, k _ G H ext_n s (.bl _)⟩
  · cases e; cases rb
    have q := k _ G H ext_n s (.bl _)
    cases ra <;> first | exact ⟨rfl, q⟩ | (rename_i h; exact (h rfl).elim)
end
end Np
set_option Elab.async false
set_option linter.all false
set_option maxRecDepth 100000
set_option maxHeartbeats 4000000
namespace Np
open PySem PySem.Spec PyProof.Rows L2
def ints? : List DD → Option (List Int)
  | [] => some []
  | .int i :: ds => (ints? ds).map (i :: ·)
  | _ => none
def strs? : List DD → Option (List Str)
  | [] => some []
  | .str i :: ds => (strs? ds).map (i :: ·)
  | _ => none
def bls? : List DD → Option (List Bool)
  | [] => some []
  | .bl i :: ds => (bls? ds).map (i :: ·)
  | _ => none
@[simp] theorem ints?_map : ∀ ns : List Int, ints? (ns.map DD.int) = some ns
  | [] => rfl
  | n :: ns => by show (ints? (ns.map DD.int)).map (n :: ·) = _; rw [ints?_map ns] <;> rfl
@[simp] theorem strs?_map : ∀ ns : List Str, strs? (ns.map DD.str) = some ns
  | [] => rfl
  | n :: ns => by show (strs? (ns.map DD.str)).map (n :: ·) = _; rw [strs?_map ns] <;> rfl
@[simp] theorem bls?_map : ∀ ns : List Bool, bls? (ns.map DD.bl) = some ns
  | [] => rfl
  | n :: ns => by show (bls? (ns.map DD.bl)).map (n :: ·) = _; rw [bls?_map ns] <;> rfl
theorem ints?_eq : ∀ {ds : List DD} {ns : List Int}, ints? ds = some ns → ds = ns.map DD.int
  | [], _, h => by cases h; rfl
  | d :: ds, ns, h => by
    cases d <;> first | (cases h; done) | skip
    obtain ⟨ms, h1, h2⟩ := Option.map_eq_some_iff.mp h
    rw [ints?_eq h1, ← h2] <;> rfl
theorem strs?_eq : ∀ {ds : List DD} {ns : List Str}, strs? ds = some ns → ds = ns.map DD.str
  | [], _, h => by cases h; rfl
  | d :: ds, ns, h => by
    cases d <;> first | (cases h; done) | skip
    obtain ⟨ms, h1, h2⟩ := Option.map_eq_some_iff.mp h
    rw [strs?_eq h1, ← h2] <;> rfl
def dNil : DA := fun _ τ => .ok [] τ
def dCons (a : DE) (r : DA) : DA := fun ρ τ => (a ρ τ).bind fun x τ1 => (r ρ τ1).bind fun xs τ2 => .ok (x :: xs) τ2
def dCall (g : List DD → Option DD) (a : DA) : DE := fun ρ τ => (a ρ τ).bind fun x τ1 => R.of τ1 (g x)
section
variable {W : Wp} {Wx : L2.St → XK} {ta tb tc : TE} {δa δb δc : DE} {tr : TA} {δr : DA}
theorem da_nil : DnA W Wx tNil dNil := fun tp G H σ ρ τ Q E P => P [] G H Ext.refl E .nil
theorem da_cons (ha : Dn W Wx ta δa) (hr : DnA W Wx tr δr) : DnA W Wx (tCons ta tr) (dCons δa δr) := fun tp G H σ ρ τ Q E P =>
  ha _ _ _ _ _ _ _ E (P.bind fun a τ1 x G1 H1 e1 E1 r1 P1 => hr _ _ _ _ _ _ _ E1 (P1.bind fun b τ2 y G2 H2 e2 E2 r2 P2 => P2 _ G2 H2 Ext.refl E2 (.cons (Rp.mono e2.g r1) r2)))
theorem dn_cb {r : List V → Hp → VK → Prop} {g : List DD → Option DD} (hc : CallD W r g) (hr : DnA W Wx tr δr) : Dn W Wx (tCB r tr) (dCall g δr) := fun tp G H σ ρ τ Q E P =>
  hr _ _ _ _ _ _ _ E (P.bind fun a τ1 x G1 H1 e1 E1 r1 P1 => by
    obtain ⟨c, hc', P3⟩ := P1.of
    exact hc G1 H1 x a c Q E1.g r1 hc' fun v G3 H3 e3 g3 r3 => P3 v G3 H3 e3.weak (E1.grow e3 g3) r3)
def dLst (a : DA) : DE := fun ρ τ => (a ρ τ).bind fun x τ1 => if x.length ≤ sizeLine then .ok (.lst x) τ1 else .no
def dTup (a : DA) : DE := fun ρ τ => (a ρ τ).bind fun x τ1 => if x.length ≤ sizeLine then .ok (.tup x) τ1 else .no
theorem rp_newL {G : GH} {p : Addr} {vs : List V} {ds : List DD} (n : G p = none) (r : RpA W.K W.cm G vs ds) : Rp W.K W.cm (G.upd p (.lst vs)) (.ref p) (.lst ds) := .lst upd_same (r.mono (GS.new n))
theorem rp_newT {G : GH} {p : Addr} {vs : List V} {ds : List DD} (n : G p = none) (r : RpA W.K W.cm G vs ds) : Rp W.K W.cm (G.upd p (.tup vs)) (.ref p) (.tup ds) := .tup upd_same (r.mono (GS.new n))
theorem dn_lst (hr : DnA W Wx tr δr) : Dn W Wx (tLst tr) (dLst δr) := fun tp G H σ ρ τ Q E P =>
  hr _ _ _ _ _ _ _ E (P.bind fun a τ1 x G1 H1 e1 E1 r1 P1 => by
    by_cases h : a.length ≤ sizeLine
    · rw [if_pos h] at P1
      exact ⟨by rw [r1.length]; exact h, fun p n => P1 _ _ _ (Ext.new n E1.g) (E1.new n) (rp_newL (E1.g.free n) r1)⟩
    · rw [if_neg h] at P1
      exact P1.elim)
theorem dn_tup (hr : DnA W Wx tr δr) : Dn W Wx (tTup tr) (dTup δr) := fun tp G H σ ρ τ Q E P =>
  hr _ _ _ _ _ _ _ E (P.bind fun a τ1 x G1 H1 e1 E1 r1 P1 => by
    by_cases h : a.length ≤ sizeLine
    · rw [if_pos h] at P1
      exact ⟨by rw [r1.length]; exact h, fun p n => P1 _ _ _ (Ext.new n E1.g) (E1.new n) (rp_newT (E1.g.free n) r1)⟩
    · rw [if_neg h] at P1
      exact P1.elim)
def dTest (a : DE) : DT := fun ρ τ => (a ρ τ).bind fun x τ1 => match x with
  | .bl b => .ok b τ1
  | _ => .no
theorem dt_test (ha : Dn W Wx ta δa) : DnT W Wx (tTest ta) (dTest δa) := fun tp G H σ ρ τ Q E P =>
  ha _ _ _ _ _ _ _ E (P.bind fun a τ1 x G1 H1 e1 E1 r1 P1 => by
    cases a <;> first | exact P1.elim | skip
    cases r1
    exact ⟨_, rfl, P1 _ G1 H1 Ext.refl E1 rfl⟩)
/-- the truth of a datum -/
def tru : DD → Option Bool
  | .non => some false
  | .bl b => some b
  | .int i => some (i != 0)
  | .str x => if x.length ≤ sizeLine then some ((x.length : Int) != 0) else none
  | .lst xs => some (!xs.isEmpty)
  | .tup xs => some (!xs.isEmpty)
  | .dic xs => some (!xs.isEmpty)
  | .obj _ _ => none
  | .exc _ _ => none
  | .raw _ => none
  | .ptr _ => none
  | .tux _ => none
def dTru (a : DE) : DT := fun ρ τ => (a ρ τ).bind fun x τ1 => R.of τ1 (tru x)
theorem RpA.isEmpty {K : PySem.W.Frag} {cm : CM} {H : GH} {vs : List V} {ds : List DD} (r : RpA K cm H vs ds) : vs.isEmpty = ds.isEmpty := by cases r <;> rfl
theorem RpK.isEmpty {K : PySem.W.Frag} {cm : CM} {H : GH} {vs : List (Key × V)} {ds : List (Key × DD)} (r : RpK K cm H vs ds) : vs.isEmpty = ds.isEmpty := by cases r <;> rfl
variable {tA tB' : TT} {δA δB : DT}
def dAnd (a b : DT) : DT := fun ρ τ => (a ρ τ).bind fun x τ1 => if x = true then b ρ τ1 else .ok false τ1
theorem dt_and (ha : DnT W Wx tA δA) (hb : DnT W Wx tB' δB) : DnT W Wx (tAnd tA tB') (dAnd δA δB) := fun tp G H σ ρ τ Q E P =>
  ha _ _ _ _ _ _ _ E (P.bind fun a τ1 x G1 H1 e1 E1 r1 P1 => by
    cases r1
    cases a with
    | true => exact iteT (hb _ _ _ _ _ _ _ E1 P1)
    | false => exact iteF (P1 _ G1 H1 Ext.refl E1 rfl))
def dIf (a : DT) (b c : DE) : DE := fun ρ τ => (a ρ τ).bind fun x τ1 => if x = true then b ρ τ1 else c ρ τ1
theorem dn_if (h : DnT W Wx tA δA) (ha : Dn W Wx ta δa) (hb : Dn W Wx tb δb) : Dn W Wx (tIf tA ta tb) (dIf δA δa δb) := fun tp G H σ ρ τ Q E P =>
  h _ _ _ _ _ _ _ E (P.bind fun a τ1 x G1 H1 e1 E1 r1 P1 => by
    cases r1
    cases a with
    | true => exact iteT (ha _ _ _ _ _ _ _ E1 P1)
    | false => exact iteF (hb _ _ _ _ _ _ _ E1 P1))
/-- and, or, not of truths, as values -/
def dAndV (a b : DE) : DE := fun ρ τ => (a ρ τ).bind fun x τ1 => match x with
  | .bl true => b ρ τ1
  | .bl false => .ok (.bl false) τ1
  | _ => .no
def dOrV (a b : DE) : DE := fun ρ τ => (a ρ τ).bind fun x τ1 => match x with
  | .bl true => .ok (.bl true) τ1
  | .bl false => b ρ τ1
  | _ => .no
def dNotV (a : DE) : DE := fun ρ τ => (a ρ τ).bind fun x τ1 => match x with
  | .bl b => .ok (.bl (!b)) τ1
  | _ => .no
/-- a op b op c -/
def dChain (g g' : DD → DD → Option DD) (a b c : DE) : DE := fun ρ τ => (a ρ τ).bind fun x τ1 => (b ρ τ1).bind fun y τ2 => (R.of τ2 (g x y)).bind fun z τ3 => match z with
  | .bl true => (c ρ τ3).bind fun w τ4 => R.of τ4 (g' y w)
  | .bl false => .ok (.bl false) τ3
  | _ => .no
end
end Np
set_option Elab.async false
set_option linter.all false
set_option maxRecDepth 100000
set_option maxHeartbeats 4000000
namespace Np
open PySem PySem.Spec PyProof.Rows L2
section
variable {W : Wp} {Wx : L2.St → XK} {ta tb tc : TE} {δa δb δc : DE} {tr : TA} {δr : DA}
theorem RpA.atI {K : PySem.W.Frag} {cm : CM} {H : GH} {vs : List V} {ds : List DD} {i : Int} {d : DD} (r : RpA K cm H vs ds) (h : L2.atI ds i = some d) : ∃ v, L2.atI vs i = some v ∧ Rp K cm H v d := by
  unfold L2.atI at h ⊢
  rw [r.length]
  obtain ⟨j, h1, h2⟩ := Option.bind_eq_some_iff.mp h
  obtain ⟨v, e, rv⟩ := r.get h2
  exact ⟨v, by rw [h1]; exact e, rv⟩
def gIxL : DD → DD → Option DD
  | .lst ds, .int i => atI ds i
  | _, _ => none
def gIxT : DD → DD → Option DD
  | .tup ds, .int i => atI ds i
  | _, _ => none
def gIxS : DD → DD → Option DD
  | .str z, .int i => if z.length ≤ sizeLine then (atI z.cps.toList i).map fun c => .str ⟨#[c]⟩ else none
  | _, _ => none
theorem od_ixL : OpD W (rIxL W.K) gIxL := by
  intro G H x y a b c Q s ra rb e k
  cases a <;> cases b <;> first | (cases e; done) | skip
  cases ra with
  | lst h r =>
    obtain ⟨v, e1, rv⟩ := r.atI (show L2.atI _ _ = some c from e)
    exact ⟨_, _, _, v, rfl, rb.int_of, SqL.of (s _ _ h), e1, k _ G H ext_n s rv⟩
theorem od_ixT : OpD W (rIxT W.K) gIxT := by
  intro G H x y a b c Q s ra rb e k
  cases a <;> cases b <;> first | (cases e; done) | skip
  cases ra with
  | tup h r =>
    obtain ⟨v, e1, rv⟩ := r.atI (show L2.atI _ _ = some c from e)
    exact ⟨_, _, _, v, rfl, rb.int_of, SqT.of (s _ _ h), e1, k _ G H ext_n s rv⟩
theorem od_ixS : OpD W rIxS gIxS := by
  intro G H x y a b c Q s ra rb e k
  cases a <;> cases b <;> first | (cases e; done) | skip
  rename_i z i
  have e : (if z.length ≤ sizeLine then (L2.atI z.cps.toList i).map fun c => DD.str ⟨#[c]⟩ else none) = some c := e
  split at e
  · rename_i hz
    obtain ⟨n, h1, h2⟩ := Option.map_eq_some_iff.mp e
    cases h2
    exact ⟨z, i, n, ra.str_of, rb.int_of, hz, h1, k _ G H ext_n s (.str _)⟩
  · cases e
abbrev DO := PEnv → TS' → R (Option Int)
abbrev rO : Option Addr → GH → Option Int → Option Int → Prop := fun _ _ b c => b = c
abbrev DnO (W : Wp) (Wx : L2.St → XK) (t : TO) (δ : DO) : Prop := DnG W Wx rO t δ
def dNoP : DO := fun _ τ => .ok none τ
def dPart (a : DE) : DO := fun ρ τ => (a ρ τ).bind fun x τ1 => match x with
  | .int i => .ok (some i) τ1
  | _ => .no
theorem do_none : DnO W Wx tNoPart dNoP := fun tp G H σ ρ τ Q E P => P none G H Ext.refl E rfl
theorem do_some (ha : Dn W Wx ta δa) : DnO W Wx (tPart ta) (dPart δa) := fun tp G H σ ρ τ Q E P =>
  ha _ _ _ _ _ _ _ E (P.bind fun a τ1 x G1 H1 e1 E1 r1 P1 => by
    cases a <;> first | exact P1.elim | skip
    cases r1
    exact ⟨_, rfl, P1 _ G1 H1 Ext.refl E1 rfl⟩)
def SlD (W : Wp) (r : V → Option Int → Option Int → Hp → VK → Prop) (g : DD → Option Int → Option Int → Option DD) : Prop := ∀ (G : GH) (H : Hp) (x : V) (a c : DD) (lo hi : Option Int) (Q : VK), SB W G H → Rp W.K W.cm G x a → g a lo hi = some c →
  (∀ v G' H', Ext none G H G' H' → SB W G' H' → Rp W.K W.cm G' v c → Q v H') → r x lo hi H Q
def dSl (g : DD → Option Int → Option Int → Option DD) (a : DE) (l h : DO) : DE := fun ρ τ => (a ρ τ).bind fun x τ1 => (l ρ τ1).bind fun lo τ2 => (h ρ τ2).bind fun hi τ3 => R.of τ3 (g x lo hi)
theorem dn_slice {tl th : TO} {δl δh : DO} {r : V → Option Int → Option Int → Hp → VK → Prop} {g : DD → Option Int → Option Int → Option DD} (hs : SlD W r g) (ha : Dn W Wx ta δa) (hl : DnO W Wx tl δl) (hh : DnO W Wx th δh) : Dn W Wx (tSl r ta tl th) (dSl g δa δl δh) := fun tp G H σ ρ τ Q E P =>
  ha _ _ _ _ _ _ _ E (P.bind fun a τ1 x G1 H1 e1 E1 r1 P1 => hl _ _ _ _ _ _ _ E1 (P1.bind fun lo τ2 y G2 H2 e2 E2 r2 P2 => hh _ _ _ _ _ _ _ E2 (P2.bind fun hi τ3 z G3 H3 e3 E3 r3 P3 => by
    cases r2
    cases r3
    obtain ⟨c, hc, P4⟩ := P3.of
    exact hs G3 H3 x a c lo hi Q E3.g (Rp.mono (e2.g.trans e3.g) r1) hc fun v G4 H4 e4 g4 r4 => P4 v G4 H4 e4.weak (E3.grow e4 g4) r4)))
def cutL {α : Type} (xs : List α) (lo hi : Option Int) : List α := (xs.drop (HT.sIx xs.length 0 lo)).take (HT.sIx xs.length xs.length hi - HT.sIx xs.length 0 lo)
def gSlL : DD → Option Int → Option Int → Option DD
  | .lst ds, lo, hi => some (.lst (cutL ds lo hi))
  | _, _, _ => none
def gSlS : DD → Option Int → Option Int → Option DD
  | .str z, lo, hi => if z.length ≤ sizeLine then some (.str (cutS z lo hi)) else none
  | _, _, _ => none
theorem sd_str : SlD W rSlS gSlS := by
  intro G H x a c lo hi Q s ra e k
  cases a <;> first | (cases e; done) | skip
  rename_i z
  have e : (if z.length ≤ sizeLine then some (DD.str (cutS z lo hi)) else none) = some c := e
  split at e
  · rename_i hz
    cases e
    exact ⟨z, ra.str_of, hz, k _ G H ext_n s (.str _)⟩
  · cases e
def gRevL : DD → Option DD
  | .lst ds => some (.lst ds.reverse)
  | _ => none
def gRevS : DD → Option DD
  | .str z => if z.length ≤ sizeLine then some (.str (revS z)) else none
  | _ => none
theorem dn_revL (ha : Dn W Wx ta δa) : Dn W Wx (tRevL W.K ta) (dUn gRevL δa) := fun tp G H σ ρ τ Q E P =>
  ha _ _ _ _ _ _ _ E (P.bind fun a τ1 x G1 H1 e1 E1 r1 P1 => by
    obtain ⟨c, hc, P2⟩ := P1.of
    cases r1 <;> first | (cases hc; done) | skip
    rename_i h r
    cases hc
    exact ⟨_, _, rfl, SqL.of (E1.g _ _ h), fun p n => P2 _ _ _ (Ext.new n E1.g) (E1.new n) (rp_newL (E1.g.free n) r.reverse)⟩)
def gCat : DD → DD → Option DD
  | .lst a, .lst b => if a.length + b.length ≤ sizeLine then some (.lst (a ++ b)) else none
  | _, _ => none
def gCatT : DD → DD → Option DD
  | .tup a, .tup b => if a.length + b.length ≤ sizeLine then some (.tup (a ++ b)) else none
  | _, _ => none
def gRep : DD → DD → Option DD
  | .lst a, .int k => if -(2 ^ 63) ≤ k ∧ k < 2 ^ 63 ∧ a.length * k.toNat ≤ sizeLine then some (.lst (List.replicate k.toNat a).flatten) else none
  | _, _ => none
def flat? : DD → Option V
  | .non => some .non
  | .bl b => some (.bl b)
  | .int b => some (.int b)
  | .str b => some (.str b)
  | _ => none
def flats? : List DD → Option (List V)
  | [] => some []
  | d :: ds => match flat? d, flats? ds with
    | some v, some vs => some (v :: vs)
    | _, _ => none
@[simp] theorem flats?_strs : ∀ ns : List Str, flats? (ns.map DD.str) = some (ns.map V.str)
  | [] => rfl
  | n :: ns => by rw [List.map_cons, flats?, flats?_strs ns]; rfl
@[simp] theorem flats?_ints : ∀ ns : List Int, flats? (ns.map DD.int) = some (ns.map V.int)
  | [] => rfl
  | n :: ns => by rw [List.map_cons, flats?, flats?_ints ns]; rfl
def items? : DD → Option (List DD)
  | .lst ds => some ds
  | .tup ds => some ds
  | .tux ds => some ds
  | _ => none
end
end Np
set_option Elab.async false
set_option linter.all false
set_option maxRecDepth 100000
set_option maxHeartbeats 4000000
namespace Np
open PySem PySem.Spec PyProof.Rows L2
mutual
def toPy : DD → Option PyData
  | .non => some .none
  | .bl b => some (.bool b)
  | .int i => some (.int i)
  | .str x => some (.str x)
  | .lst ds => (toPys ds).map .list
  | .tup ds => (toPys ds).map .tuple
  | _ => none
def toPys : List DD → Option (List PyData)
  | [] => some []
  | d :: ds => match toPy d, toPys ds with
    | some p, some ps => some (p :: ps)
    | _, _ => none
end
section
variable {W : Wp} {Wx : L2.St → XK} {ta tb tc : TE} {δa δb δc : DE} {tr : TA} {δr : DA}
mutual
theorem Rp.dp {K : PySem.W.Frag} {cm : CM} {H : GH} : ∀ {v : V} {d : DD} {p : PyData}, Rp K cm H v d → toPy d = some p → Dp K H v p
  | _, _, _, .non, h => by rw [toPy] at h; cases h; exact .non
  | _, _, _, .bl b, h => by rw [toPy] at h; cases h; exact .bl b
  | _, _, _, .int b, h => by rw [toPy] at h; cases h; exact .int b
  | _, _, _, .str b, h => by rw [toPy] at h; cases h; exact .str b
  | _, _, _, .lst a r, h => by
    rw [toPy] at h
    obtain ⟨ps, h1, h2⟩ := Option.map_eq_some_iff.mp h
    cases h2
    exact .lst (SqL.of a) (RpA.dps r h1)
  | _, _, _, .tup a r, h => by
    rw [toPy] at h
    obtain ⟨ps, h1, h2⟩ := Option.map_eq_some_iff.mp h
    cases h2
    exact .tup (SqT.of a) (RpA.dps r h1)
  | _, _, _, .dic a r, h => by rw [toPy] at h <;> first | (cases h; done) | (intros; contradiction)
  | _, _, _, .obj a r, h => by rw [toPy] at h <;> first | (cases h; done) | (intros; contradiction)
  | _, _, _, .exc a z q b r, h => by rw [toPy] at h <;> first | (cases h; done) | (intros; contradiction)
  | _, _, _, .raw a, h => by rw [toPy] at h <;> first | (cases h; done) | (intros; contradiction)
  | _, _, _, .ptr a, h => by rw [toPy] at h <;> first | (cases h; done) | (intros; contradiction)
  | _, _, _, .tux a n r, h => by rw [toPy] at h <;> first | (cases h; done) | (intros; contradiction)
theorem RpA.dps {K : PySem.W.Frag} {cm : CM} {H : GH} : ∀ {v : List V} {d : List DD} {p : List PyData}, RpA K cm H v d → toPys d = some p → DpAll K H v p
  | _, _, _, .nil, h => by rw [toPys] at h; cases h; exact .nil
  | _, _, _, .cons r rs, h => by
    rw [toPys] at h
    split at h
    · rename_i p ps h1 h2
      cases h
      exact .cons (Rp.dp r h1) (RpA.dps rs h2)
    · cases h
end
def py2 (g : PyData → PyData → Option DD) (a b : DD) : Option DD := match toPy a, toPy b with
  | some p, some q => if SeqAt.shaped p = true ∧ SeqAt.shaped q = true then g p q else none
  | _, _ => none
abbrev gEqD := py2 fun p q => some (.bl (PyData.eqv p q))
abbrev gNeD := py2 fun p q => some (.bl (!PyData.eqv p q))
theorem py2_eq {g : PyData → PyData → Option DD} {a b c : DD} (h : py2 g a b = some c) : ∃ p q, toPy a = some p ∧ toPy b = some q ∧ SeqAt.shaped p = true ∧ SeqAt.shaped q = true ∧ g p q = some c := by
  unfold py2 at h
  split at h
  · rename_i p q h1 h2
    split at h
    · rename_i h3
      exact ⟨p, q, h1, h2, h3.1, h3.2, h⟩
    · cases h
  · cases h
theorem od_neD : OpD W (rNeD W.K) gNeD := by
  intro G H x y a b c Q s ra rb e k
  obtain ⟨p, q, h1, h2, h3, h4, h5⟩ := py2_eq e
  cases h5
  exact ⟨p, q, (ra.mono s.gs).dp h1, (rb.mono s.gs).dp h2, h3, h4, k _ G H ext_n s (.bl _)⟩
def c1 (g : DD → Option DD) : List DD → Option DD
  | [d] => g d
  | _ => none
def c2 (g : DD → DD → Option DD) : List DD → Option DD
  | [d, e] => g d e
  | _ => none
theorem c1_eq {g : DD → Option DD} {ds : List DD} {c : DD} (h : c1 g ds = some c) : ∃ d, ds = [d] ∧ g d = some c := by
  unfold c1 at h
  split at h
  · exact ⟨_, rfl, h⟩
  · cases h
def gLenS : DD → Option DD
  | .str z => if z.length ≤ sizeLine then some (.int z.length) else none
  | _ => none
def gLenL (d : DD) : Option DD := (items? d).map fun ds => .int ds.length
theorem cd_lenS : CallD W (fun xs H Q => ∃ z, xs = [.str z] ∧ z.length ≤ sizeLine ∧ Q (.int z.length) H) (c1 gLenS) := by
  intro G H x a c Q s ra e k
  replace e := c1_eq e
  obtain ⟨d, rfl, e⟩ := e
  cases ra with | cons r rs =>
  cases rs
  cases d <;> first | (cases e; done) | skip
  rename_i z
  have e : (if z.length ≤ sizeLine then some (DD.int z.length) else none) = some c := e
  split at e
  · rename_i hz
    cases e
    exact ⟨z, by rw [r.str_of], hz, k _ G H ext_n s (.int _)⟩
  · cases e
theorem cd_lenL : CallD W (rLenK W.K) (c1 gLenL) := by
  intro G H x a c Q s ra e k
  replace e := c1_eq e
  obtain ⟨d, rfl, e⟩ := e
  cases ra with | cons r rs =>
  cases rs
  obtain ⟨ds, h1, h2⟩ := Option.map_eq_some_iff.mp e
  cases h2
  cases r <;> first | (cases h1; done) | skip
  · rename_i h r
    cases h1
    exact ⟨_, _, rfl, .inl (SqL.of (s _ _ h)), k _ G H ext_n s (by rw [r.length]; exact .int _)⟩
  · rename_i h r
    cases h1
    exact ⟨_, _, rfl, .inr (SqT.of (s _ _ h)), k _ G H ext_n s (by rw [r.length]; exact .int _)⟩
  · rename_i h _ r
    cases h1
    exact ⟨_, _, rfl, .inr (.inl (.inr ⟨_, s _ _ h⟩)), k _ G H ext_n s (by rw [r.length]; exact .int _)⟩
def gAbs : DD → Option DD
  | .int i => some (.int (if i < 0 then -i else i))
  | _ => none
def gStrI : DD → Option DD
  | .int i => if i.natAbs.log2 < 1920 then some (.str (toString i)) else none
  | _ => none
def gIntS : DD → Option DD
  | .str a => if a.length ≤ 640 then (PySem.intText? a).map .int else none
  | _ => none
def gInt1 : DD → Option DD
  | .int a => some (.int a)
  | .bl b => some (.int (if b then 1 else 0))
  | _ => none
def gSum : DD → Option DD
  | .lst ds => (ints? ds).map fun ns => .int ns.sum
  | _ => none
theorem cd_sum : CallD W (rSum W.K) (c1 gSum) := by
  intro G H x a c Q s ra e k
  replace e := c1_eq e
  obtain ⟨d, rfl, e⟩ := e
  cases ra with | cons r rs =>
  cases rs
  cases r <;> first | (cases e; done) | skip
  rename_i h r
  obtain ⟨ns, h1, h2⟩ := Option.map_eq_some_iff.mp e
  cases h2
  cases ints?_eq h1
  exact ⟨_, ns, rfl, by rw [← r.ints_of]; exact SqL.of (s _ _ h), k _ G H ext_n s (.int _)⟩
def maxL : Int → List Int → Int
  | m, [] => m
  | m, n :: ns => maxL (max m n) ns
def minL : Int → List Int → Int
  | m, [] => m
  | m, n :: ns => minL (min m n) ns
theorem maxL_max : ∀ (m : Int) (ns : List Int), (maxL m ns = m ∨ maxL m ns ∈ ns) ∧ m ≤ maxL m ns ∧ ∀ y ∈ ns, y ≤ maxL m ns
  | m, [] => ⟨.inl rfl, Int.le_refl _, fun _ h => by cases h⟩
  | m, n :: ns => by
    obtain ⟨a, b, c⟩ := maxL_max (max m n) ns
    show (maxL (max m n) ns = m ∨ maxL (max m n) ns ∈ n :: ns) ∧ m ≤ maxL (max m n) ns ∧ ∀ y ∈ n :: ns, y ≤ maxL (max m n) ns
    refine ⟨?_, by omega, fun y hy => ?_⟩
    · rcases a with a | a
      · by_cases h : m ≤ n
        · right; rw [a, Int.max_eq_right h]; exact List.mem_cons_self
        · left; rw [a]; omega
      · exact .inr (List.mem_cons_of_mem _ a)
    · rcases List.mem_cons.mp hy with rfl | hy
      · omega
      · exact c y hy
def gAllL : DD → Option DD
  | .lst ds => (bls? ds).map fun bs => .bl (bs.all id)
  | _ => none
def gAnyL : DD → Option DD
  | .lst ds => (bls? ds).map fun bs => .bl (bs.any id)
  | _ => none
def gList (d : DD) : Option DD := (items? d).map .lst
def gTuple : DD → Option DD
  | .lst ds => some (.tup ds)
  | .tup ds => some (.tup ds)
  | _ => none
def signs (z : Str) : List DD := z.cps.toList.map fun c => DD.str ⟨#[c]⟩
def gListS : DD → Option DD
  | .str z => if z.length ≤ sizeLine then some (.lst (signs z)) else none
  | _ => none
def tyN : DD → Option String
  | .non => some "NoneType"
  | .bl _ => some "bool"
  | .int _ => some "int"
  | .str _ => some "str"
  | .lst _ => some "list"
  | .tup _ => some "tuple"
  | .dic _ => some "dict"
  | .obj _ _ => none
  | .exc _ _ => none
  | .raw _ => none
  | .ptr _ => none
  | .tux _ => none
def isT (T : String) (n : String) : Bool := n == T || (n == "bool" && T == "int")
def gIsi (T : String) (d : DD) : Option DD := (tyN d).map fun n => .bl (isT T n)
def gIsi2 (T U : String) (d : DD) : Option DD := (tyN d).map fun n => .bl (isT T n || isT U n)
end
end Np
set_option Elab.async false
set_option linter.all false
set_option maxRecDepth 100000
set_option maxHeartbeats 4000000
namespace Np
open PySem PySem.Spec PyProof.Rows L2
section
variable {W : Wp} {Wx : L2.St → XK} {ta tb tc : TE} {δa δb δc : DE} {tr : TA} {δr : DA}
def MtD (W : Wp) (r : V → List V → Hp → VK → Prop) (g : Str → List DD → Option DD) : Prop := ∀ (G : GH) (H : Hp) (z : Str) (xs : List V) (as : List DD) (c : DD) (Q : VK), SB W G H → RpA W.K W.cm G xs as → g z as = some c →
  (∀ v G' H', Ext none G H G' H' → SB W G' H' → Rp W.K W.cm G' v c → Q v H') → r (.str z) xs H Q
def dM0 (g : Str → List DD → Option DD) (o : DE) : DE := fun ρ τ => (o ρ τ).bind fun x τ1 => match x with
  | .str z => R.of τ1 (g z [])
  | _ => .no
def dM1 (g : Str → List DD → Option DD) (o a : DE) : DE := fun ρ τ => (o ρ τ).bind fun x τ1 => match x with
  | .str z => (a ρ τ1).bind fun y τ2 => R.of τ2 (g z [y])
  | _ => .no
def dMs (g : Str → List DD → Option DD) (o : DE) (a : DA) : DE := fun ρ τ => (o ρ τ).bind fun x τ1 => match x with
  | .str z => (a ρ τ1).bind fun y τ2 => R.of τ2 (g z y)
  | _ => .no
theorem dn_m1 {r : V → List V → Hp → VK → Prop} {g : Str → List DD → Option DD} (h : MtD W r g) (ha : Dn W Wx ta δa) (hb : Dn W Wx tb δb) : Dn W Wx (tM1 r ta tb) (dM1 g δa δb) := fun tp G H σ ρ τ Q E P =>
  ha _ _ _ _ _ _ _ E (P.bind fun a τ1 x G1 H1 e1 E1 r1 P1 => by
    cases r1 <;> first | exact P1.elim | skip
    refine ⟨⟨_, rfl⟩, hb _ _ _ _ _ _ _ E1 (Pg.bind P1 fun b τ2 y G2 H2 e2 E2 r2 P2 => ?_)⟩
    obtain ⟨c, hc, P3⟩ := P2.of
    exact h G2 H2 _ [y] [b] c Q E2.g (.cons r2 .nil) hc fun v G3 H3 e3 g3 r3 => P3 v G3 H3 e3.weak (E2.grow e3 g3) r3)
def m0 (g : Str → Option DD) : Str → List DD → Option DD
  | z, [] => g z
  | _, _ => none
def m1S (g : Str → Str → Option DD) : Str → List DD → Option DD
  | z, [.str y] => g z y
  | _, _ => none
def m1I (g : Str → Int → Option DD) : Str → List DD → Option DD
  | z, [.int y] => g z y
  | _, _ => none
theorem ifs {α : Type} {p : Prop} [Decidable p] {a c : α} (h : (if p then some a else none) = some c) : p ∧ a = c := by
  split at h
  · rename_i q; exact ⟨q, Option.some.inj h⟩
  · cases h
def gJoin (z : Str) : List DD → Option DD
  | [d] => match (items? d).bind strs? with
    | some ys => if (ys.map (·.length)).sum + ys.length * z.length ≤ 16777216 then some (.str (Txt.join z ys)) else none
    | none => none
  | _ => none
theorem md_join : MtD W (rJoinK W.K) gJoin := by
  intro G H z xs as c Q s ra e k
  unfold gJoin at e
  split at e
  · rename_i d
    cases ra with | cons r rs =>
    cases rs
    split at e
    · rename_i ys h1
      obtain ⟨h, rfl⟩ := ifs e
      obtain ⟨ds, h3, h4⟩ := Option.bind_eq_some_iff.mp h1
      cases strs?_eq h4
      cases r <;> first | (cases h3; done) | skip
      · rename_i q r
        cases h3
        exact ⟨z, _, ys, rfl, rfl, .inl (by rw [← r.strs_of]; exact SqL.of (s _ _ q)), h, k _ G H ext_n s (.str _)⟩
      · rename_i q r
        cases h3
        exact ⟨z, _, ys, rfl, rfl, .inr (by rw [← r.strs_of]; exact SqT.of (s _ _ q)), h, k _ G H ext_n s (.str _)⟩
      · rename_i q _ r
        cases h3
        exact ⟨z, _, ys, rfl, rfl, .inr (by rw [← r.strs_of]; exact .inl (.inr ⟨_, s _ _ q⟩)), h, k _ G H ext_n s (.str _)⟩
    · cases e
  · cases e
def gFmt : DD → Option DD
  | .str y => if y.length ≤ sizeLine then some (.str y) else none
  | .int i => if i.natAbs.log2 < 1920 then some (.str (toString i)) else none
  | _ => none
def dJs : List DE → Str → DE
  | [], acc => fun _ τ => .ok (.str acc) τ
  | d :: ds, acc => fun ρ τ => (d ρ τ).bind fun x τ1 => match x with
    | .str y => if (acc ++ y).length ≤ sizeLine then dJs ds (acc ++ y) ρ τ1 else .no
    | _ => .no
structure ItR (W : Wp) (G : GH) (J : It) (ds : List DD) : Prop where
  go : ∀ i H, SB W G H → i < ds.length → J.go i H
  stop : ∀ H, SB W G H → J.stop ds.length H
  yld : ∀ i d Gc H x H', GS G Gc → SB W Gc H → ds[i]? = some d → J.yld i H x H' → ∃ G', Ext none Gc H G' H' ∧ SB W G' H' ∧ Rp W.K W.cm G' x d
abbrev rI' (W : Wp) : Option Addr → GH → It → List DD → Prop := fun _ G J ds => ItR W G J ds
abbrev DI := PEnv → TS' → R (List DD)
abbrev DnI (W : Wp) (Wx : L2.St → XK) (t : TI) (δ : DI) : Prop := DnG W Wx (rI' W) t δ
theorem ItR.mono {G G' : GH} {J : It} {ds : List DD} (h : ItR W G J ds) (s : GS G G') : ItR W G' J ds :=
  ⟨fun i H s' => h.go i H (s.sb s'), fun H s' => h.stop H (s.sb s'), fun i d Gc H x H' s' => h.yld i d Gc H x H' (s.trans s')⟩
theorem ItR.list {G : GH} {a : Addr} {xs : List V} {ds : List DD} (h : G a = some (.lst xs)) (r : RpA W.K W.cm G xs ds) : ItR W G (Itl W.K a) ds := by
  have w := walk_list (K := W.K) (a := a) (xs := xs)
  rw [r.length] at w
  refine ⟨fun i H s hi => w.goes i H hi (SqL.of (s _ _ h)), fun H s => w.stops H (SqL.of (s _ _ h)), fun i d Gc H x H' s s' hd y => ?_⟩
  obtain ⟨v, e, rv⟩ := r.get hd
  obtain ⟨rfl, e'⟩ := w.yields i H x H' (List.getElem?_eq_some_iff.mp hd).1 (SqL.of (s' _ _ (s _ _ h))) y
  rw [e] at e'
  cases e'
  exact ⟨Gc, ext_n, s', rv.mono s⟩
theorem ItR.tupS {G : GH} {a : Addr} {xs : List V} {ds : List DD} (h : SqT W.K G.hp a xs) (r : RpA W.K W.cm G xs ds) : ItR W G (Itt W.K a) ds := by
  have w := walk_tup (K := W.K) (a := a) (xs := xs)
  rw [r.length] at w
  refine ⟨fun i H s hi => w.goes i H hi (Same.tupq s.s h), fun H s => w.stops H (Same.tupq s.s h), fun i d Gc H x H' s s' hd y => ?_⟩
  obtain ⟨v, e, rv⟩ := r.get hd
  obtain ⟨rfl, e'⟩ := w.yields i H x H' (List.getElem?_eq_some_iff.mp hd).1 (Same.tupq s'.s (Same.tupq s.s h)) y
  rw [e] at e'
  cases e'
  exact ⟨Gc, ext_n, s', rv.mono s⟩
theorem ItR.tup {G : GH} {a : Addr} {xs : List V} {ds : List DD} (h : G a = some (.tup xs)) (r : RpA W.K W.cm G xs ds) : ItR W G (Itt W.K a) ds := ItR.tupS (SqT.of h) r
def rangeD (lo : Int) (n : Nat) : List DD := (List.range n).map fun (i : Nat) => DD.int (lo + i)
theorem rangeD_length (lo : Int) (n : Nat) : (rangeD lo n).length = n := by unfold rangeD; rw [List.length_map, List.length_range]
theorem ItR.range {G : GH} {lo : Int} {n : Nat} : ItR W G (Itr lo n) (rangeD lo n) := by
  have w := walk_range (lo := lo) (n := n)
  refine ⟨fun i H s hi => w.goes i H (by rw [rangeD_length] at hi; exact hi) trivial, fun H s => by rw [rangeD_length]; exact w.stops H trivial, fun i d Gc H x H' s s' hd y => ?_⟩
  have hi : i < n := by have := (List.getElem?_eq_some_iff.mp hd).1; rw [rangeD_length] at this; exact this
  obtain ⟨rfl, rfl⟩ := w.yields i H x H' hi trivial y
  unfold rangeD at hd
  rw [List.getElem?_map, List.getElem?_range hi] at hd
  cases hd
  exact ⟨Gc, ext_n, s', .int _⟩
theorem ItR.str {G : GH} {z : Str} : ItR W G (Its z) (signs z) := by
  have w := walk_str (z := z)
  have hl : (signs z).length = z.cps.size := by unfold signs; rw [List.length_map, Array.length_toList]
  refine ⟨fun i H s hi => w.goes i H (by rw [hl] at hi; exact hi) trivial, fun H s => by rw [hl]; exact w.stops H trivial, fun i d Gc H x H' s s' hd y => ?_⟩
  obtain ⟨rfl, c, hc, rfl⟩ := w.yields i H x H' (by rw [← hl]; exact (List.getElem?_eq_some_iff.mp hd).1) trivial y
  unfold signs at hd
  rw [List.getElem?_map, Array.getElem?_toList, hc] at hd
  cases hd
  exact ⟨Gc, ext_n, s', .str _⟩
def dIList (a : DE) : DI := fun ρ τ => (a ρ τ).bind fun x τ1 => match x with
  | .lst ds => .ok ds τ1
  | _ => .no
def dITup (a : DE) : DI := fun ρ τ => (a ρ τ).bind fun x τ1 => match x with
  | .tup ds => .ok ds τ1
  | .tux ds => .ok ds τ1
  | _ => .no
def dIStr (a : DE) : DI := fun ρ τ => (a ρ τ).bind fun x τ1 => match x with
  | .str z => .ok (signs z) τ1
  | _ => .no
def dIR1 (a : DA) : DI := fun ρ τ => (a ρ τ).bind fun x τ1 => match x with
  | [.int j] => if -(2 ^ 62) ≤ j ∧ j < 2 ^ 62 then .ok (rangeD 0 j.toNat) τ1 else .no
  | _ => .no
def dIR2 (a : DA) : DI := fun ρ τ => (a ρ τ).bind fun x τ1 => match x with
  | [.int i, .int j] => if -(2 ^ 62) ≤ i ∧ i < 2 ^ 62 ∧ -(2 ^ 62) ≤ j ∧ j < 2 ^ 62 then .ok (rangeD i (j - i).toNat) τ1 else .no
  | _ => .no
theorem di_list (ha : Dn W Wx ta δa) : DnI W Wx (iList W.K ta) (dIList δa) := fun tp G H σ ρ τ Q E P =>
  ha _ _ _ _ _ _ _ E (P.bind fun a τ1 x G1 H1 e1 E1 r1 P1 => by
    cases r1 <;> first | exact P1.elim | skip
    rename_i h r
    exact ⟨_, rfl, ⟨_, SqL.of (E1.g _ _ h)⟩, P1 _ G1 H1 Ext.refl E1 (ItR.list h r)⟩)
theorem di_range1 (hr : DnA W Wx tr δr) : DnI W Wx (iRng1 tr) (dIR1 δr) := fun tp G H σ ρ τ Q E P =>
  hr _ _ _ _ _ _ _ E (P.bind fun a τ1 x G1 H1 e1 E1 r1 P1 => by
    split at P1
    · rename_i j
      by_cases h : -(2 ^ 62) ≤ j ∧ j < 2 ^ 62
      · rw [if_pos h] at P1
        cases r1 with | cons r rs =>
        cases rs
        exact ⟨j, by rw [r.int_of], h.1, h.2, P1 _ G1 H1 Ext.refl E1 ItR.range⟩
      · rw [if_neg h] at P1
        exact P1.elim
    · exact P1.elim)
theorem di_range2 (hr : DnA W Wx tr δr) : DnI W Wx (iRng2 tr) (dIR2 δr) := fun tp G H σ ρ τ Q E P =>
  hr _ _ _ _ _ _ _ E (P.bind fun a τ1 x G1 H1 e1 E1 r1 P1 => by
    split at P1
    · rename_i i j
      by_cases h : -(2 ^ 62) ≤ i ∧ i < 2 ^ 62 ∧ -(2 ^ 62) ≤ j ∧ j < 2 ^ 62
      · rw [if_pos h] at P1
        cases r1 with | cons r rs =>
        cases rs with | cons r' rs =>
        cases rs
        exact ⟨i, j, by rw [r.int_of, r'.int_of], h, P1 _ G1 H1 Ext.refl E1 ItR.range⟩
      · rw [if_neg h] at P1
        exact P1.elim
    · exact P1.elim)
def enumD (ds : List DD) : List DD := ds.mapIdx fun i d => DD.tup [.int (i : Nat), d]
def dIEnum (a : DA) : DI := fun ρ τ => (a ρ τ).bind fun x τ1 => match x with
  | [.lst ds] => .ok (enumD ds) τ1
  | _ => .no
def zipD (ds es : List DD) : List DD := List.zipWith (fun a b => DD.tup [a, b]) ds es
def dIZip (a : DA) : DI := fun ρ τ => (a ρ τ).bind fun x τ1 => match x with
  | [.lst ds, .lst es] => .ok (zipD ds es) τ1
  | _ => .no
def dIRev (a : DA) : DI := fun ρ τ => (a ρ τ).bind fun x τ1 => match x with
  | [.lst ds] => .ok ds.reverse τ1
  | _ => .no
end
end Np
set_option Elab.async false
set_option linter.all false
set_option maxRecDepth 100000
set_option maxHeartbeats 4000000
namespace Np
open PySem PySem.Spec PyProof.Rows L2
inductive Tg where
  | nm (i : Nat) | tp (ts : List Tg)
mutual
def tgG (K : PySem.W.Frag) : Tg → TG
  | .nm i => gName i
  | .tp ts => gTup K ts.length (tgGs K ts)
def tgGs (K : PySem.W.Frag) : List Tg → TGs
  | [] => gNil
  | t :: ts => gCons (tgG K t) (tgGs K ts)
end
mutual
def tgF : Tg → DD → PEnv → Option PEnv
  | .nm i, d, ρ => some (ρ.set i (some (.fr d)))
  | .tp ts, .tup ds, ρ => tgFs ts ds ρ
  | _, _, _ => none
def tgFs : List Tg → List DD → PEnv → Option PEnv
  | [], [], ρ => some ρ
  | t :: ts, d :: ds, ρ => match tgF t d ρ with
    | some ρ1 => tgFs ts ds ρ1
    | none => none
  | _, _, _ => none
end
mutual
def tgS : Tg → List Nat
  | .nm i => [i]
  | .tp ts => tgSs ts
def tgSs : List Tg → List Nat
  | [] => []
  | t :: ts => tgS t ++ tgSs ts
end
/-- what is owned then was owned -/
def Sub (σ : L2.St) (ρ : PEnv) (σ' : L2.St) (ρ' : PEnv) : Prop := ∀ (j : Nat) (c : OC) (a : Addr), ρ'[j]? = some (some (PV.ow c)) → σ'[j]? = some (some (V.ref a)) → ρ[j]? = some (some (PV.ow c)) ∧ σ[j]? = some (some (V.ref a))
theorem Sub.refl {σ : L2.St} {ρ : PEnv} : Sub σ ρ σ ρ := fun _ _ _ a b => ⟨a, b⟩
theorem Sub.trans {σ σ1 σ2 : L2.St} {ρ ρ1 ρ2 : PEnv} (a : Sub σ ρ σ1 ρ1) (b : Sub σ1 ρ1 σ2 ρ2) : Sub σ ρ σ2 ρ2 := fun j c p h1 h2 => let ⟨x, y⟩ := b j c p h1 h2; a j c p x y
theorem set_get {α : Type} {l : List (Option α)} {i j : Nat} {x : Option α} {y : α} (h : (l.set i x)[j]? = some (some y)) (hx : x ≠ some y) : j ≠ i ∧ l[j]? = some (some y) := by
  by_cases e : i = j
  · subst e
    by_cases hl : i < l.length
    · rw [List.getElem?_set_self hl] at h
      exact absurd (Option.some.inj h) hx
    · rw [List.getElem?_eq_none (by rw [List.length_set]; omega)] at h
      cases h
  · rw [List.getElem?_set_ne e] at h
    exact ⟨fun z => e z.symm, h⟩
theorem Sub.set {σ : L2.St} {ρ : PEnv} {i : Nat} {v : Option V} {p : Option PV} (hp : ∀ c, p ≠ some (.ow c)) : Sub σ ρ (σ.set i v) (ρ.set i p) := fun j c a h1 h2 => by
  obtain ⟨n, h3⟩ := set_get h1 (hp c)
  rw [List.getElem?_set_ne (fun z => n z.symm)] at h2
  exact ⟨h3, h2⟩
section
variable {W : Wp} {Wx : L2.St → XK} {tp : Option Addr} {G : GH} {H : Hp} {σ : L2.St} {ρ : PEnv} {τ : TS'}
theorem EnvV.setS {i : Nat} {v : Option V} {p : Option PV} (E : EnvV W tp G H σ ρ τ) (r : SlotR W tp G H v p) (hp : ∀ c, p ≠ some (.ow c)) : EnvV W tp G H (σ.set i v) (ρ.set i p) τ := by
  refine ⟨E.g, Paired.setL r i E.s, fun j k a b c c' F F' h1 h2 h3 h4 w w' => ?_, E.t⟩
  obtain ⟨a1, a2⟩ := Sub.set (σ := σ) (v := v) hp j c a h1 h3
  obtain ⟨b1, b2⟩ := Sub.set (σ := σ) (v := v) hp k c' b h2 h4
  exact E.d j k a b c c' F F' a1 b1 a2 b2 w w'
/-- no slot owns p -/
def FreeP (W : Wp) (G : GH) (H : Hp) (σ : L2.St) (ρ : PEnv) (p : Addr) : Prop := ∀ (j : Nat) (c : OC) (a : Addr) (F : List Addr), ρ[j]? = some (some (PV.ow c)) → σ[j]? = some (some (V.ref a)) → OwR W G H a c F → p ∉ F
theorem EnvV.noO {p : Addr} (E : EnvV W tp G H σ ρ τ) (n : H p = none) : FreeP W G H σ ρ p := fun j c a F h1 h2 w hp => w.at p hp n
theorem FreeP.ext {p : Addr} {G' : GH} {H' : Hp} (f : FreeP W G H σ ρ p) (E : EnvV W tp G H σ ρ τ) (e : Ext tp G H G' H') : FreeP W G' H' σ ρ p := fun j c a F h1 h2 w => f j c a F h1 h2 (E.backE e h1 h2 w)
theorem EnvV.setF {i : Nat} {v : V} {d : DD} (E : EnvV W tp G H σ ρ τ) (r : Rp W.K W.cm G v d) : EnvV W tp G H (σ.set i (some v)) (ρ.set i (some (.fr d))) τ := E.setS r fun _ z => by cases z
theorem EnvV.setN {i : Nat} (E : EnvV W tp G H σ ρ τ) : EnvV W tp G H (σ.set i none) (ρ.set i none) τ := E.setS (v := none) (p := none) trivial fun _ z => by cases z
def wipeP (ρ : PEnv) : List Nat → PEnv
  | [] => ρ
  | v :: vs => (wipeP ρ vs).set v none
theorem EnvV.wipe (E : EnvV W tp G H σ ρ τ) : ∀ vs, EnvV W tp G H (L2.wipe σ vs) (wipeP ρ vs) τ
  | [] => E
  | v :: vs => (E.wipe vs).setN
theorem wipe_set {i : Nat} {x : Option V} : ∀ {vs : List Nat} {σ : L2.St}, i ∈ vs → L2.wipe (σ.set i x) vs = L2.wipe σ vs
  | v :: vs, σ, h => by
    unfold L2.wipe
    by_cases hv : i ∈ vs
    · rw [wipe_set hv]
    · have e : i = v := by
        rcases List.mem_cons.mp h with z | z
        · exact z
        · exact absurd z hv
      subst e
      have : ∀ (vs : List Nat), i ∉ vs → L2.wipe (σ.set i x) vs = (L2.wipe σ vs).set i x := by
        intro vs
        induction vs with
        | nil => intro _; rfl
        | cons w ws ih =>
          intro hn
          unfold L2.wipe
          rw [ih fun z => hn (List.mem_cons_of_mem _ z), List.set_comm]
          exact fun z => hn (by rw [z]; exact List.mem_cons_self)
      rw [this vs hv, List.set_set]
mutual
theorem tg_run : ∀ (t : Tg) {σ : L2.St} {ρ ρ' : PEnv} {x : V} {d : DD} {Kc : L2.St → Hp → Prop}, EnvV W tp G H σ ρ τ → Rp W.K W.cm G x d → tgF t d ρ = some ρ' →
    (∀ σ', EnvV W tp G H σ' ρ' τ → Sub σ ρ σ' ρ' → (∀ js, (∀ i ∈ tgS t, i ∈ js) → L2.wipe σ' js = L2.wipe σ js) → Kc σ' H) → tgG W.K t x σ H Kc
  | .nm i, σ, ρ, ρ', x, d, Kc, E, r, h, k => by
    rw [tgF] at h
    cases h
    rw [tgG]
    exact k _ (E.setF r) (Sub.set fun _ z => by cases z) fun js hj => wipe_set (hj i (by rw [tgS]; exact List.mem_cons_self))
  | .tp ts, σ, ρ, ρ', x, d, Kc, E, r, h, k => by
    rw [tgG]
    cases d <;> first | (rw [tgF] at h <;> first | (cases h; done) | (intros; contradiction)) | skip
    rw [tgF] at h
    cases r with | tup e rs =>
    rename_i ds a xs
    have hl : xs.length = ts.length := by
      rw [rs.length]
      clear rs e k
      have : ∀ (ts : List Tg) (ds : List DD) (ρ ρ' : PEnv), tgFs ts ds ρ = some ρ' → ds.length = ts.length := by
        intro ts
        induction ts with
        | nil => intro ds ρ ρ' h; cases ds with
          | nil => rfl
          | cons d ds => rw [tgFs] at h <;> first | (cases h; done) | (intros; contradiction)
        | cons t ts ih =>
          intro ds ρ ρ' h
          cases ds with
          | nil => rw [tgFs] at h <;> first | (cases h; done) | (intros; contradiction)
          | cons d ds =>
            rw [tgFs] at h
            split at h
            · exact congrArg Nat.succ (ih _ _ _ h)
            · cases h
      exact this _ _ _ _ h
    exact ⟨_, xs, rfl, SqT.of (E.g _ _ e), hl, tgs_run ts E rs h fun σ' E' s w => k σ' E' s fun js hj => w js (by rw [tgS] at hj; exact hj)⟩
theorem tgs_run : ∀ (ts : List Tg) {σ : L2.St} {ρ ρ' : PEnv} {xs : List V} {ds : List DD} {Kc : L2.St → Hp → Prop}, EnvV W tp G H σ ρ τ → RpA W.K W.cm G xs ds → tgFs ts ds ρ = some ρ' →
    (∀ σ', EnvV W tp G H σ' ρ' τ → Sub σ ρ σ' ρ' → (∀ js, (∀ i ∈ tgSs ts, i ∈ js) → L2.wipe σ' js = L2.wipe σ js) → Kc σ' H) → tgGs W.K ts xs σ H Kc
  | [], σ, ρ, ρ', xs, ds, Kc, E, r, h, k => by
    rw [tgGs]
    cases ds with
    | nil =>
      rw [tgFs] at h
      cases h
      cases r
      exact ⟨rfl, k _ E Sub.refl fun _ _ => rfl⟩
    | cons d ds => rw [tgFs] at h <;> first | (cases h; done) | (intros; contradiction)
  | t :: ts, σ, ρ, ρ', xs, ds, Kc, E, r, h, k => by
    rw [tgGs]
    cases ds with
    | nil => rw [tgFs] at h <;> first | (cases h; done) | (intros; contradiction)
    | cons d ds =>
      rw [tgFs] at h
      split at h
      · rename_i ρ1 h1
        cases r with | cons r rs =>
        refine ⟨_, _, rfl, tg_run t E r h1 fun σ1 E1 s1 w1 => tgs_run ts E1 rs h fun σ2 E2 s2 w2 => k σ2 E2 (s1.trans s2) fun js hj => ?_⟩
        rw [w2 js fun i hi => hj i (by rw [tgSs]; exact List.mem_append_right _ hi), w1 js fun i hi => hj i (by rw [tgSs]; exact List.mem_append_left _ hi)]
      · cases h
end
def R.nox {α : Type} : R α → R α
  | .ok a τ => .ok a τ
  | _ => .no
@[simp] theorem R.nox_ok {α : Type} (a : α) (τ : TS') : (R.ok a τ).nox = .ok a τ := id rfl
abbrev W0 : L2.St → XK := fun _ => E0
def lcL (t : Tg) (c : DT) (e : DE) (ρ : PEnv) : List DD → TS' → R (List DD)
  | [], τ => .ok [] τ
  | d :: ds, τ => match tgF t d ρ with
    | none => .no
    | some ρ1 => (c ρ1 τ).nox.bind fun b τ1 => if b = true then (e ρ1 τ1).nox.bind fun y τ2 => (lcL t c e ρ ds τ2).bind fun ys τ3 => .ok (y :: ys) τ3 else lcL t c e ρ ds τ1
def dLc (i : DI) (t : Tg) (c : DT) (e : DE) (vs : List Nat) : DE := fun ρ τ => (i ρ τ).bind fun ds τ1 => if ds.length ≤ sizeLine then (lcL t c e (wipeP ρ vs) ds τ1).bind fun ys τ2 => .ok (.lst ys) τ2 else .no
def dYes : DT := fun _ τ => .ok true τ
theorem dt_yes : DnT W Wx tYes dYes := fun tp G H σ ρ τ Q E P => P true G H Ext.refl E rfl
theorem R.nox_eq {α β : Type} {r : R α} {f : α → TS' → R β} {b : β} {τ' : TS'} (h : r.nox.bind f = .ok b τ') : ∃ a τ1, r = .ok a τ1 ∧ f a τ1 = .ok b τ' := by
  cases r with
  | ok a τ1 => exact ⟨a, τ1, rfl, h⟩
  | ex x τ1 => cases h
  | no => cases h
theorem R.bind_eq {α β : Type} {r : R α} {f : α → TS' → R β} {b : β} {τ' : TS'} (h : r.bind f = .ok b τ') : ∃ a τ1, r = .ok a τ1 ∧ f a τ1 = .ok b τ' := by
  cases r with
  | ok a τ1 => exact ⟨a, τ1, rfl, h⟩
  | ex x τ1 => cases h
  | no => cases h
theorem lcL_inv {t : Tg} {c : DT} {e : DE} {ρ : PEnv} {d : DD} {ds ys : List DD} {τ τ' : TS'} (h : lcL t c e ρ (d :: ds) τ = .ok ys τ') : ∃ ρ1 b τ1, tgF t d ρ = some ρ1 ∧ c ρ1 τ = .ok b τ1 ∧
    ((b = true ∧ ∃ y τ2 zs, e ρ1 τ1 = .ok y τ2 ∧ lcL t c e ρ ds τ2 = .ok zs τ' ∧ ys = y :: zs) ∨ (b = false ∧ lcL t c e ρ ds τ1 = .ok ys τ')) := by
  rw [lcL] at h
  split at h
  · cases h
  · rename_i ρ1 h1
    obtain ⟨b, τ1, h2, h3⟩ := R.nox_eq h
    refine ⟨ρ1, b, τ1, h1, h2, ?_⟩
    cases b with
    | false => exact .inr ⟨rfl, h3⟩
    | true =>
      obtain ⟨y, τ2, h4, h5⟩ := R.nox_eq h3
      obtain ⟨zs, τ3, h6, h7⟩ := R.bind_eq h5
      cases h7
      exact .inl ⟨rfl, y, τ2, zs, h4, h6, rfl⟩
theorem Ext.mut {G' : GH} {H' : Hp} {p : Addr} {o : HO} (e : Ext tp G H G' H') (n : H p = none) : Ext tp G H G' (upd H' p o) :=
  ⟨e.g, fun q u nq t h => by rw [upd_ne (ne_of_none h n)]; exact e.h q u nq t h, e.f, fun q hq => by
    by_cases z : q = p
    · rw [z, upd_same]; simp
    · rw [upd_ne z]; exact e.x q hq, e.w, e.z⟩
/-- a thing that no slot has is changed -/
theorem EnvV.mutH {p : Addr} {o : HO} (E : EnvV W tp G H σ ρ τ) (g : G p = none) (nt : NoM tp G p) (pl : NT H p) (no : FreeP W G H σ ρ p) : EnvV W tp G (upd H p o) σ ρ τ := by
  have kp : ∀ {j : Nat} {c : OC} {a : Addr} {F : List Addr}, ρ[j]? = some (some (PV.ow c)) → σ[j]? = some (some (V.ref a)) → OwR W G H a c F → OwR W G (upd H p o) a c F := fun h1 h2 w => w.keep (GS.refl _) fun q hq u hu => by
    rw [upd_ne (fun z => no _ _ _ _ h1 h2 w (by rw [← z]; exact hq))]; exact hu
  refine ⟨E.g.put g pl, Paired.mapI E.s fun j v q hv hq h => ?_, fun i j a b c c' F F' h1 h2 h3 h4 w w' => ?_, E.t.put nt⟩
  · match v, q, h with
    | _, none, _ => trivial
    | some v, some (.fr d), h => exact h
    | some v, some (.ow c), ⟨a, F, r, w, gn⟩ =>
      subst r
      exact ⟨a, F, rfl, kp hq hv w, gn⟩
    | some v, some .tape, h => exact h
    | some v, some (.scr ns), h => exact h
    | some v, some (.fn x), h => exact h
    | some v, some .thk, ⟨f, c, q, g, a, b, s, n, h⟩ => exact ⟨f, c, q, g, a, b, s, n, by rw [upd_ne (code_ne h pl)]; exact h⟩
  · obtain ⟨F1, w1, _⟩ := E.own h1 h3
    obtain ⟨F2, w2, _⟩ := E.own h2 h4
    rw [w.uniq (kp h1 h3 w1), w'.uniq (kp h2 h4 w2)]
    exact E.d i j a b c c' F1 F2 h1 h2 h3 h4 w1 w2
theorem wipe_wipe {σ : L2.St} : ∀ {vs : List Nat}, L2.wipe (L2.wipe σ vs) vs = L2.wipe σ vs := by
  have : ∀ (us vs : List Nat), (∀ i ∈ us, i ∈ vs) → L2.wipe (L2.wipe σ us) vs = L2.wipe σ vs := by
    intro us
    induction us with
    | nil => intro vs _; rfl
    | cons u us ih =>
      intro vs h
      show L2.wipe ((L2.wipe σ us).set u none) vs = _
      rw [wipe_set (h u List.mem_cons_self), ih vs fun i hi => h i (List.mem_cons_of_mem _ hi)]
  exact fun {vs} => this vs vs fun _ h => h
theorem lc_run {J : It} {tt : TT} {te : TE} {vs : List Nat} {δc : DT} {δe : DE} {t : Tg} {ds ys : List DD} {τ1 τ' : TS'} {G1 : GH} {H1 : Hp} {D : Addr} {Qd : Hp → Prop} (hv : (tgS t).all (fun i => decide (i ∈ vs)) = true) (hc : DnT W W0 tt δc) (he : Dn W W0 te δe)
    (E1 : EnvV W tp G1 H1 σ ρ τ1) (it : ItR W G1 J ds) (hl : ds.length ≤ sizeLine) (hok : lcL t δc δe (wipeP ρ vs) ds τ1 = .ok ys τ') (nD : H1 D = none)
    (k : ∀ acc G' H', Ext tp G1 H1 G' H' → EnvV W tp G' H' σ ρ τ' → G' D = none → NoM tp G' D → H' D = some (.lst acc) → RpA W.K W.cm G' acc ys → Qd H') :
    ∃ W' : Nat → Nat → Hp → Prop, (∃ m, W' 0 m (upd H1 D (.lst []))) ∧ ∀ i m H, W' i m H →
      (J.stop i H ∧ Qd H) ∨ (J.go i H ∧ ∃ Nx : Hp → Prop, (∀ H', Nx H' → ∃ m', m' < m ∧ W' (i + 1) m' H') ∧ ∀ x H', J.yld i H x H' → tgG W.K t x (L2.wipe σ vs) H' fun σ2 H2 => L2.wipe σ2 vs = L2.wipe σ vs ∧ tt σ2 H2 fun b H3 =>
        if b = true then te σ2 H3 fun y H4 => ∃ acc, H4 D = some (.lst acc) ∧ acc.length < sizeLine ∧ Nx (upd H4 D (.lst (acc ++ [y]))) else Nx H3) := by
  have ndt := E1.noM nD
  have noD := E1.noO nD
  have w : Walk J ds.length (fun H => SB W G1 H) (fun i H x H' => ∀ d Gc, ds[i]? = some d → GS G1 Gc → SB W Gc H → ∃ G', Ext none Gc H G' H' ∧ SB W G' H' ∧ Rp W.K W.cm G' x d) :=
    ⟨fun i H hi s => it.go i H s hi, fun H s => it.stop H s, fun i H x H' hi s y d Gc hd s1 s2 => it.yld i d Gc H x H' s1 s2 hd y⟩
  refine lc_it w (fun i Hc => ∃ Gc τc acc done rest, Ext tp G1 H1 Gc Hc ∧ EnvV W tp Gc Hc σ ρ τc ∧ Gc D = none ∧ NoM tp Gc D ∧ Hc D = some (.lst acc) ∧ RpA W.K W.cm Gc acc done ∧ done.length ≤ i ∧
        lcL t δc δe (wipeP ρ vs) (ds.drop i) τc = .ok rest τ' ∧ ys = done ++ rest) ?_ (fun i Hc _ h => ?_) ?_ ?_
  · exact ⟨G1, τ1, [], [], ys, Ext.newH nD, E1.newH nD, E1.g.free nD, ndt, upd_same, .nil, Nat.le_refl _, hok, rfl⟩
  · obtain ⟨Gc, τc, acc, done, rest, ec, Ec, _⟩ := h
    exact ec.g.sb Ec.g
  · rintro i x Hc Hc' hi ⟨Gc, τc, acc, done, rest, ec, Ec, gD, nc, hD, ra, hdn, hr, hys⟩ y
    obtain ⟨d, hd⟩ : ∃ d, ds[i]? = some d := ⟨ds[i], List.getElem?_eq_getElem hi⟩
    have hdr : ds.drop i = d :: ds.drop (i + 1) := by
      obtain ⟨h1, h2⟩ := List.getElem?_eq_some_iff.mp hd
      rw [List.drop_eq_getElem_cons h1, h2]
    obtain ⟨Gd, ed, sd, rd⟩ := y d Gc hd ec.g Ec.g
    have Ed := Ec.grow ed sd
    rw [hdr] at hr
    obtain ⟨ρ1, b, τ2, hf, hcb, hcase⟩ := lcL_inv hr
    refine tg_run t (Ed.wipe vs) rd hf fun σ2 E2 s2 w2 => ⟨by rw [w2 vs fun i hi => of_decide_eq_true (List.all_eq_true.mp hv i hi)]; exact wipe_wipe, hc _ _ _ _ _ _ _ E2 ?_⟩
    rw [hcb]
    intro b' G3 H3 e3 E3 rb
    cases rb
    have E3' : EnvV W tp G3 H3 σ ρ τ2 := Ed.ext e3 E3.g E3.t
    have e03 : Ext tp G1 H1 G3 H3 := (ec.trans ed.weak).trans e3
    have nd : NoM tp Gd D := ed.weak.nom nc (by rw [hD]; simp)
    have hDd : Hc' D = some (.lst acc) := ed.h D _ NoM.none rfl hD
    have n3 : NoM tp G3 D := e3.nom nd (by rw [hDd]; simp)
    have hD3 : H3 D = some (.lst acc) := e3.h D _ nd rfl hDd
    have gD3 : G3 D = none := e3.f D nd (by rw [hDd]; simp) (ed.f D NoM.none (by rw [hD]; simp) gD)
    have ra3 := ra.mono (ed.g.trans e3.g)
    rcases hcase with ⟨rfl, y, τ4, zs, hy, hz, rfl⟩ | ⟨rfl, hz⟩
    · refine iteT (he _ _ _ _ _ _ _ E3 ?_)
      rw [hy]
      intro v G4 H4 e4 E4 ry
      have E4' : EnvV W tp G4 H4 σ ρ τ4 := E3'.ext e4 E4.g E4.t
      have gD4 : G4 D = none := e4.f D n3 (by rw [hD3]; simp) gD3
      have hD4 : H4 D = some (.lst acc) := e4.h D _ n3 rfl hD3
      have n4 : NoM tp G4 D := e4.nom n3 (by rw [hD3]; simp)
      refine ⟨acc, hD4, by rw [ra.length]; omega, G4, τ4, acc ++ [v], done ++ [y], zs, (e03.trans e4).mut nD, E4'.mutH gD4 n4 ⟨_, hD4, rfl⟩ (noD.ext E1 (e03.trans e4)), gD4, n4, upd_same, (ra3.mono e4.g).append (.cons ry .nil), by rw [List.length_append]; show _ + 1 ≤ _; omega, hz, by rw [hys, List.append_assoc]; rfl⟩
    · exact iteF ⟨G3, τ2, acc, done, rest, e03, E3', gD3, n3, hD3, ra3, by omega, hz, hys⟩
  · rintro Hc ⟨Gc, τc, acc, done, rest, ec, Ec, gD, nc, hD, ra, hdn, hr, hys⟩
    rw [List.drop_length] at hr
    cases hr
    rw [List.append_nil] at hys
    subst hys
    exact k acc Gc Hc ec Ec gD nc hD ra
theorem lcL_noex {t : Tg} {c : DT} {e : DE} {ρ : PEnv} {x : Ex} {τ' : TS'} : ∀ {ds : List DD} {τ : TS'}, lcL t c e ρ ds τ = .ex x τ' → False
  | [], _, h => by cases h
  | d :: ds, τ, h => by
    rw [lcL] at h
    split at h
    · cases h
    · rename_i ρ1 _
      cases hc : c ρ1 τ with
      | no => rw [hc] at h; cases h
      | ex y τy => rw [hc] at h; cases h
      | ok b τ1 =>
        rw [hc] at h
        cases b with
        | false => exact lcL_noex (ds := ds) h
        | true =>
          simp only [R.nox_ok, R.bind_ok, if_true] at h
          cases he : e ρ1 τ1 with
          | no => rw [he] at h; simp [R.nox] at h
          | ex y τy => rw [he] at h; simp [R.nox] at h
          | ok y τ2 =>
            rw [he] at h
            cases hl : lcL t c e ρ ds τ2 with
            | no => simp [hl] at h
            | ex z τz => exact lcL_noex hl
            | ok zs τ3 => simp [hl] at h
/-- a thing that no slot has stays from now on -/
theorem EnvV.freeze {p : Addr} {o : HO} (E : EnvV W tp G H σ ρ τ) (g : G p = none) (h : H p = some o) (ht : o.tb = false) (nt : NoM tp G p) (no : FreeP W G H σ ρ p) : EnvV W tp (G.upd p o) H σ ρ τ := by
  have s1 : GS G (G.upd p o) := GS.new g
  refine ⟨E.g.frz h ht, Paired.mapI E.s fun j v q hv hq' h => ?_, fun i j a b c c' F F' h1 h2 h3 h4 w w' => E.d i j a b c c' F F' h1 h2 h3 h4 (E.back s1 (fun _ _ _ h => h) h1 h3 w) (E.back s1 (fun _ _ _ h => h) h2 h4 w'), E.t.frz1 g nt⟩
  match v, q, h with
  | _, none, _ => trivial
  | some v, some (.fr d), h => exact Rp.mono s1 h
  | some v, some (.ow c), ⟨a, F, r, w, gn⟩ =>
    subst r
    exact ⟨a, F, rfl, w.keep s1 fun _ _ o h => h, fun q hq => ⟨by show upd G.hp p o q = none; rw [upd_ne (fun z => no j c a F hq' hv w (by rw [← z]; exact hq))]; exact (gn q hq).1, (gn q hq).2⟩⟩
  | some v, some .tape, h => exact h
  | some v, some (.scr ns), ⟨a, r, q⟩ => exact ⟨a, r, s1.seq q⟩
  | some v, some (.fn x), h => exact h
  | some v, some .thk, ⟨f, c, q, g, a, b, s, n, h⟩ => exact ⟨f, c, q, g, a, b, s.trans s1, n, h⟩
theorem Ext.frzN {G' : GH} {H' : Hp} {p : Addr} {o : HO} (e : Ext tp G H G' H') (n : H p = none) (g : G' p = none) : Ext tp G H (G'.upd p o) H' :=
  ⟨e.g.trans (GS.new g), e.h, fun q np hp hg => by
    show upd G'.hp p o q = none
    rw [upd_ne (fun z => hp (by rw [z]; exact n))]
    exact e.f q np hp hg, e.x, e.w, e.z⟩
theorem dn_lc {wi : TI} {tt : TT} {te : TE} {vs : List Nat} {δi : DI} {δc : DT} {δe : DE} {t : Tg} (hv : (tgS t).all (fun i => decide (i ∈ vs)) = true) (hi : DnI W Wx wi δi) (hc : DnT W W0 tt δc) (he : Dn W W0 te δe) :
    Dn W Wx (tLc wi (tgG W.K t) tt te vs) (dLc δi t δc δe vs) := fun tp G H σ ρ τ Q E P =>
  hi _ _ _ _ _ _ _ E (P.bind fun ds τ1 J G1 H1 e1 E1 it P1 D nD => by
    by_cases hl : ds.length ≤ sizeLine
    · rw [if_pos hl] at P1
      cases hok : lcL t δc δe (wipeP ρ vs) ds τ1 with
      | no => rw [hok] at P1; exact P1.elim
      | ex x τx => exact (lcL_noex hok).elim
      | ok ys τ' =>
        rw [hok] at P1
        refine lc_run hv hc he E1 it hl hok nD fun acc G' H' e E' gD nD' hD ra => ?_
        refine P1 (.ref D) (G'.upd D (.lst acc)) H' (e.frzN nD gD) (E'.freeze gD hD rfl nD' ((E1.noO nD).ext E1 e)) (rp_newL gD ra)
    · rw [if_neg hl] at P1
      exact P1.elim)
end
end Np
set_option Elab.async false
set_option linter.all false
set_option maxRecDepth 100000
set_option maxHeartbeats 4000000
namespace Np
open PySem PySem.Spec PyProof.Rows L2
inductive Ct where
  | nx (ρ : PEnv) | rt (d : DD) | bk (ρ : PEnv) | ct (ρ : PEnv) | xc (x : Ex) (ρ : PEnv) | ro (c : OC)
abbrev DS := PEnv → TS' → R Ct
structure EnvS (W : Wp) (tp0 : Option Addr) (G0 : GH) (H0 : Hp) (tp : Option Addr) (G : GH) (H : Hp) (σ : L2.St) (ρ : PEnv) (τ : TS') : Prop where
  v : EnvV W tp G H σ ρ τ
  e : Ext tp0 G0 H0 G H
  o : ∀ (j : Nat) (c : OC) (a : Addr) (F : List Addr), ρ[j]? = some (some (PV.ow c)) → σ[j]? = some (some (V.ref a)) → OwR W G H a c F → ∀ p ∈ F, H0 p = none
  t : tp = tp0 ∨ (tp0 = none ∧ False)
section
variable (W : Wp) (Wx : L2.St → XK)
def Ps (tp0 : Option Addr) (G0 : GH) (H0 : Hp) (G : GH) (D : Ends) : R Ct → Prop
  | .ok (.nx ρ) τ => ∀ tp' G' H' σ', GS G G' → EnvS W tp0 G0 H0 tp' G' H' σ' ρ τ → D.nx σ' H'
  | .ok (.bk ρ) τ => ∀ tp' G' H' σ', GS G G' → EnvS W tp0 G0 H0 tp' G' H' σ' ρ τ → D.bk σ' H'
  | .ok (.ct ρ) τ => ∀ tp' G' H' σ', GS G G' → EnvS W tp0 G0 H0 tp' G' H' σ' ρ τ → D.ct σ' H'
  | .ok (.rt d) τ => ∀ v tp' G' H', Ext tp0 G0 H0 G' H' → SB W G' H' → TapeO W G' H' tp' τ → (tp' = tp0 ∨ tp0 = none) → Rp W.K W.cm G' v d → D.rt v H'
  | .ok (.ro c) τ => ∀ p F tp' G' H', Ext tp0 G0 H0 G' H' → SB W G' H' → TapeO W G' H' tp' τ → (tp' = tp0 ∨ tp0 = none) → OwR W G' H' p c F → (∀ q ∈ F, H0 q = none ∧ G' q = none ∧ NoM tp' G' q) → D.rt (.ref p) H'
  | .ok (.xc x ρ) τ => ∀ d tp' G' H' σ', GS G G' → EnvS W tp0 G0 H0 tp' G' H' σ' ρ τ → ExR W G' H' x d → Wx σ' (.ref (W.cm x.cls)) d H'
  | _ => False
def DnS (t : L2.TS) (δ : DS) : Prop := ∀ tp0 G0 H0 tp G H σ ρ τ D, EnvS W tp0 G0 H0 tp G H σ ρ τ → Ps W Wx tp0 G0 H0 G D (δ ρ τ) → t D σ H
end
def stE {α : Type} (r : R α) (ρ : PEnv) (f : α → TS' → R Ct) : R Ct := match r with
  | .ok a τ => f a τ
  | .ex x τ => .ok (.xc x ρ) τ
  | .no => .no
@[simp] theorem stE_ok {α : Type} (a : α) (τ : TS') (ρ : PEnv) (f : α → TS' → R Ct) : stE (.ok a τ) ρ f = f a τ := id rfl
@[simp] theorem stE_ex {α : Type} (a : Ex) (τ : TS') (ρ : PEnv) (f : α → TS' → R Ct) : stE (.ex a τ) ρ f = .ok (.xc a ρ) τ := id rfl
@[simp] theorem stE_no {α : Type} (ρ : PEnv) (f : α → TS' → R Ct) : stE (.no) ρ f = .no := id rfl
section
variable {W : Wp} {Wx : L2.St → XK} {tp0 tp tp' : Option Addr} {G0 G G' : GH} {H0 H H' : Hp} {σ : L2.St} {ρ : PEnv} {τ τ' : TS'} {D : Ends}
theorem Ext.comp (e : Ext tp0 G0 H0 G H) (t : tp = tp0 ∨ (tp0 = none ∧ False)) (e' : Ext tp G H G' H') : Ext tp0 G0 H0 G' H' := by
  rcases t with rfl | ⟨_, h⟩
  · exact e.trans e'
  · exact h.elim
theorem EnvS.step (E : EnvS W tp0 G0 H0 tp G H σ ρ τ) (e : Ext tp G H G' H') (E' : EnvV W tp G' H' σ ρ τ') : EnvS W tp0 G0 H0 tp G' H' σ ρ τ' :=
  ⟨E', E.e.comp E.t e, fun j c a F h1 h2 w => E.o j c a F h1 h2 (E.v.backE e h1 h2 w), E.t⟩
theorem EnvS.sub {σ' : L2.St} {ρ' : PEnv} (E : EnvS W tp0 G0 H0 tp G H σ ρ τ) (E' : EnvV W tp G H σ' ρ' τ) (s : Sub σ ρ σ' ρ') : EnvS W tp0 G0 H0 tp G H σ' ρ' τ :=
  ⟨E', E.e, fun j c a F h1 h2 w => let ⟨x, y⟩ := s j c a h1 h2; E.o j c a F x y w, E.t⟩
theorem Ps.shift {r : R Ct} (P : Ps W Wx tp0 G0 H0 G D r) (s : GS G G') : Ps W Wx tp0 G0 H0 G' D r := by
  match r, P with
  | .ok (.nx ρ) τ, P => exact fun tp' G2 H' σ' s' => P tp' G2 H' σ' (s.trans s')
  | .ok (.bk ρ) τ, P => exact fun tp' G2 H' σ' s' => P tp' G2 H' σ' (s.trans s')
  | .ok (.ct ρ) τ, P => exact fun tp' G2 H' σ' s' => P tp' G2 H' σ' (s.trans s')
  | .ok (.rt d) τ, P => exact P
  | .ok (.ro d) τ, P => exact P
  | .ok (.xc x ρ) τ, P => exact fun d tp' G2 H' σ' s' => P d tp' G2 H' σ' (s.trans s')
  | .ex x τ, P => exact P.elim
  | .no, P => exact P.elim
theorem Ps.bind {α β : Type} {rel : Option Addr → GH → β → α → Prop} {Q' : β → Hp → Prop} {r : R α} {f : α → TS' → R Ct} (P : Ps W Wx tp0 G0 H0 G D (stE r ρ f)) (E : EnvS W tp0 G0 H0 tp G H σ ρ τ)
    (k : ∀ a τ1 b G1 H1, EnvS W tp0 G0 H0 tp G1 H1 σ ρ τ1 → Ext tp G H G1 H1 → rel tp G1 b a → Ps W Wx tp0 G0 H0 G1 D (f a τ1) → Q' b H1) : Pg W Wx rel tp σ ρ G H Q' r := by
  cases r with
  | ok a τ1 => exact fun b G1 H1 e1 E1 r1 => k a τ1 b G1 H1 (E.step e1 E1) e1 r1 (Ps.shift (r := f a τ1) P e1.g)
  | ex x τ1 => exact fun d G1 H1 e1 E1 hx => P d tp G1 H1 σ e1.g (E.step e1 E1) hx
  | no => exact P.elim
variable {te : TE} {δe : DE} {t u : L2.TS} {δt δu : DS} {tc : TT} {δc : DT}
def dNx : DS := fun ρ τ => .ok (.nx ρ) τ
def dSeq (a b : DS) : DS := fun ρ τ => match a ρ τ with
  | .ok (.nx ρ1) τ1 => b ρ1 τ1
  | r => r
def dSet (i : Nat) (e : DE) : DS := fun ρ τ => stE (e ρ τ) ρ fun d τ1 => .ok (.nx (ρ.set i (some (.fr d)))) τ1
def dDrop (e : DE) : DS := fun ρ τ => stE (e ρ τ) ρ fun d τ1 => .ok (.nx ρ) τ1
def dRet (e : DE) : DS := fun ρ τ => stE (e ρ τ) ρ fun d τ1 => .ok (.rt d) τ1
def dRetN : DS := fun ρ τ => .ok (.rt .non) τ
def dIfS (c : DT) (a b : DS) : DS := fun ρ τ => stE (c ρ τ) ρ fun x τ1 => if x = true then a ρ τ1 else b ρ τ1
def dAsgT (e : DE) (g : Tg) : DS := fun ρ τ => stE (e ρ τ) ρ fun d τ1 => match tgF g d ρ with
  | some ρ1 => .ok (.nx ρ1) τ1
  | none => .no
def dAug (i : Nat) (g : DD → DD → Option DD) (e : DE) : DS := fun ρ τ => match ρ[i]? with
  | some (some (.fr x)) => stE (e ρ τ) ρ fun y τ1 => match g x y with
    | some z => .ok (.nx (ρ.set i (some (.fr z)))) τ1
    | none => .no
  | _ => .no
theorem ds_next : DnS W Wx tNext dNx := fun tp0 G0 H0 tp G H σ ρ τ D E P => P tp G H σ (GS.refl _) E
theorem ds_seq (ht : DnS W Wx t δt) (hu : DnS W Wx u δu) : DnS W Wx (tSeq t u) (dSeq δt δu) := fun tp0 G0 H0 tp G H σ ρ τ D E P => by
  refine ht _ _ _ _ _ _ _ _ _ _ E ?_
  unfold dSeq at P
  split at P
  · rename_i ρ1 τ1 h
    rw [h]
    exact fun tp' G' H' σ' s E' => hu _ _ _ _ _ _ _ _ _ _ E' (Ps.shift P s)
  · rename_i h
    revert P h
    match δt ρ τ with
    | .ok (.nx ρ) τ => intro h P; exact (h ρ τ rfl).elim
    | .ok (.bk ρ) τ => intro _ P; exact P
    | .ok (.ct ρ) τ => intro _ P; exact P
    | .ok (.rt d) τ => intro _ P; exact P
    | .ok (.ro d) τ => intro _ P; exact P
    | .ok (.xc x ρ) τ => intro _ P; exact P
    | .ex x τ => intro _ P; exact P.elim
    | .no => intro _ P; exact P.elim
theorem EnvS.setF {i : Nat} {v : V} {d : DD} (E : EnvS W tp0 G0 H0 tp G H σ ρ τ) (r : Rp W.K W.cm G v d) : EnvS W tp0 G0 H0 tp G H (σ.set i (some v)) (ρ.set i (some (.fr d))) τ :=
  E.sub (E.v.setF r) (Sub.set fun _ z => by cases z)
theorem ds_set {i : Nat} (he : Dn W Wx te δe) : DnS W Wx (tAsg te (gName i)) (dSet i δe) := fun tp0 G0 H0 tp G H σ ρ τ D E P =>
  he _ _ _ _ _ _ _ E.v (P.bind E fun d τ1 v G1 H1 E1 e1 r1 P1 => P1 tp G1 H1 _ (GS.refl _) (E1.setF r1))
theorem ds_drop (he : Dn W Wx te δe) : DnS W Wx (tDrop te) (dDrop δe) := fun tp0 G0 H0 tp G H σ ρ τ D E P =>
  he _ _ _ _ _ _ _ E.v (P.bind E fun d τ1 v G1 H1 E1 e1 r1 P1 => P1 tp G1 H1 _ (GS.refl _) E1)
theorem ds_ret (he : Dn W Wx te δe) : DnS W Wx (tRet te) (dRet δe) := fun tp0 G0 H0 tp G H σ ρ τ D E P =>
  he _ _ _ _ _ _ _ E.v (P.bind E fun d τ1 v G1 H1 E1 e1 r1 P1 => P1 v tp G1 H1 E1.e E1.v.g E1.v.t (E1.t.imp id fun z => z.1) r1)
theorem ds_if (hc : DnT W Wx tc δc) (ht : DnS W Wx t δt) (hu : DnS W Wx u δu) : DnS W Wx (tIfS tc t u) (dIfS δc δt δu) := fun tp0 G0 H0 tp G H σ ρ τ D E P =>
  hc _ _ _ _ _ _ _ E.v (P.bind E fun b τ1 v G1 H1 E1 e1 r1 P1 => by
    cases r1
    cases b with
    | true => exact iteT (ht _ _ _ _ _ _ _ _ _ _ E1 P1)
    | false => exact iteF (hu _ _ _ _ _ _ _ _ _ _ E1 P1))
theorem ds_asgT {g : Tg} (he : Dn W Wx te δe) : DnS W Wx (tAsg te (tgG W.K g)) (dAsgT δe g) := fun tp0 G0 H0 tp G H σ ρ τ D E P =>
  he _ _ _ _ _ _ _ E.v (P.bind E fun d τ1 v G1 H1 E1 e1 r1 P1 => by
    cases hg : tgF g d ρ with
    | none => rw [hg] at P1; exact P1.elim
    | some ρ1 =>
      rw [hg] at P1
      exact tg_run g E1.v r1 hg fun σ' E' s _ => P1 tp G1 H1 _ (GS.refl _) (E1.sub E' s))
/-- a, b = x, y -/
def dPar (i j : Nat) (a : DA) : DS := fun ρ τ => stE (a ρ τ) ρ fun ds τ1 => match ds with
  | [d, e] => .ok (.nx ((ρ.set i (some (.fr d))).set j (some (.fr e)))) τ1
  | _ => .no
variable {ta : TA} {δa : DA}
theorem ds_par {i j : Nat} (ha : DnA W Wx ta δa) : DnS W Wx (tPar i j ta) (dPar i j δa) := fun tp0 G0 H0 tp G H σ ρ τ D E P =>
  ha _ _ _ _ _ _ _ E.v (P.bind E fun ds τ1 vs G1 H1 E1 e1 r1 P1 => by
    split at P1
    · cases r1 with | cons r rs =>
      cases rs with | cons r' rs =>
      cases rs
      exact ⟨_, _, rfl, P1 tp G1 H1 _ (GS.refl _) ((E1.setF r).setF r')⟩
    · exact P1.elim)
/-- what is made new, as a slot's own -/
def PgF (W : Wp) (Wx : L2.St → XK) (tp : Option Addr) (σ : L2.St) (ρ : PEnv) (G : GH) (H : Hp) (Q : VK) : R OC → Prop
  | .ok c τ => ∀ p F G' H', Ext tp G H G' H' → EnvV W tp G' H' σ ρ τ → OwR W G' H' p c F → (∀ q ∈ F, H q = none ∧ G' q = none ∧ NoM tp G' q) → Q (.ref p) H'
  | .ex x τ => ∀ d G' H', Ext tp G H G' H' → EnvV W tp G' H' σ ρ τ → ExR W G' H' x d → Wx σ (.ref (W.cm x.cls)) d H'
  | .no => False
def DnF (W : Wp) (Wx : L2.St → XK) (t : TE) (δ : PEnv → TS' → R OC) : Prop := ∀ tp G H σ ρ τ (Q : VK), EnvV W tp G H σ ρ τ → PgF W Wx tp σ ρ G H Q (δ ρ τ) → t σ H Q
def dLstF (a : DA) : PEnv → TS' → R OC := fun ρ τ => (a ρ τ).bind fun x τ1 => if x.length ≤ sizeLine then .ok (.lst x) τ1 else .no
theorem Ext.back {p : Addr} {tp : Option Addr} {G G' : GH} {H H' : Hp} (e : Ext tp G H G' H') (n : H' p = none) : H p = none := by
  cases q : H p with
  | none => rfl
  | some o => exact (e.x p (by rw [q]; simp) n).elim
theorem fr1 {p : Addr} (n : H p = none) (g : G' p = none) (nt : NoM tp G' p) : ∀ q ∈ [p], H q = none ∧ G' q = none ∧ NoM tp G' q := fun q hq => by
  cases List.mem_singleton.mp hq
  exact ⟨n, g, nt⟩
theorem PgF.shift {Q : VK} {r : R OC} (P : PgF W Wx tp σ ρ G H Q r) (e : Ext tp G H G' H') : PgF W Wx tp σ ρ G' H' Q r := by
  cases r with
  | ok c τ => exact fun p F G2 H2 e2 E2 w fr => P p F G2 H2 (e.trans e2) E2 w fun q hq => ⟨e.back (fr q hq).1, (fr q hq).2⟩
  | ex x τ => exact fun d G2 H2 e2 => P d G2 H2 (e.trans e2)
  | no => exact P
theorem PgF.bind {α β : Type} {rel : Option Addr → GH → β → α → Prop} {Q : VK} {Q' : β → Hp → Prop} {r : R α} {f : α → TS' → R OC} (P : PgF W Wx tp σ ρ G H Q (r.bind f))
    (k : ∀ a τ1 b G1 H1, Ext tp G H G1 H1 → EnvV W tp G1 H1 σ ρ τ1 → rel tp G1 b a → PgF W Wx tp σ ρ G1 H1 Q (f a τ1) → Q' b H1) : Pg W Wx rel tp σ ρ G H Q' r := by
  cases r with
  | ok a τ1 => exact fun b G1 H1 e1 E1 r1 => k a τ1 b G1 H1 e1 E1 r1 (PgF.shift (r := f a τ1) P e1)
  | ex x τ1 => exact P
  | no => exact P
theorem df_lst (ha : DnA W Wx ta δa) : DnF W Wx (tLst ta) (dLstF δa) := fun tp G H σ ρ τ Q E P =>
  ha _ _ _ _ _ _ _ E (P.bind fun a τ1 x G1 H1 e1 E1 r1 P1 => by
    by_cases h : a.length ≤ sizeLine
    · rw [if_pos h] at P1
      exact ⟨by rw [r1.length]; exact h, fun p n => P1 p [p] G1 _ (Ext.newH n) (E1.newH n) ⟨rfl, _, upd_same, r1⟩ (fr1 n (E1.g.free n) (E1.noM n))⟩
    · rw [if_neg h] at P1
      exact P1.elim)
/-- a comprehension's list, as a slot's own -/
def dLcF (i : DI) (t : Tg) (c : DT) (e : DE) (vs : List Nat) : PEnv → TS' → R OC := fun ρ τ => (i ρ τ).bind fun ds τ1 => if ds.length ≤ sizeLine then (lcL t c e (wipeP ρ vs) ds τ1).bind fun ys τ2 => .ok (.lst ys) τ2 else .no
def dSetO (i : Nat) (e : PEnv → TS' → R OC) : DS := fun ρ τ => stE (e ρ τ) ρ fun c τ1 => .ok (.nx (ρ.set i (some (.ow c)))) τ1
/-- where a slot was set -/
theorem set_own {α : Type} {l : List (Option α)} {i j : Nat} {x y : α} (h : (l.set i (some x))[j]? = some (some y)) : (j = i ∧ x = y) ∨ (j ≠ i ∧ l[j]? = some (some y)) := by
  by_cases e : i = j
  · subst e
    by_cases hl : i < l.length
    · rw [List.getElem?_set_self hl] at h
      cases h
      exact .inl ⟨rfl, rfl⟩
    · rw [List.getElem?_eq_none (by rw [List.length_set]; omega)] at h
      cases h
  · rw [List.getElem?_set_ne e] at h
    exact .inr ⟨fun z => e z.symm, h⟩
theorem EnvV.setO {i : Nat} {p : Addr} {c : OC} {F : List Addr} (E : EnvV W tp G H σ ρ τ) (w : OwR W G H p c F) (fr : ∀ q ∈ F, G q = none ∧ NoM tp G q) (no : ∀ q ∈ F, FreeP W G H σ ρ q) :
    EnvV W tp G H (σ.set i (some (.ref p))) (ρ.set i (some (.ow c))) τ := by
  refine ⟨E.g, Paired.setL (show SlotR W tp G H (some (.ref p)) (some (.ow c)) from ⟨p, F, rfl, w, fr⟩) i E.s, fun j k a b c1 c2 F1 F2 h1 h2 h3 h4 w1 w2 q q1 q2 => ?_, E.t⟩
  rcases set_own h1 with ⟨rfl, e⟩ | ⟨nj, h1'⟩
  · cases e
    rcases set_own h3 with ⟨_, e⟩ | ⟨nj, _⟩
    · cases e
      rcases set_own h2 with ⟨rfl, _⟩ | ⟨nk, h2⟩
      · rfl
      · rw [List.getElem?_set_ne (fun z => nk z.symm)] at h4
        rw [w1.uniq w] at q1
        exact (no q q1 k c2 b F2 h2 h4 w2 q2).elim
    · exact (nj rfl).elim
  · rw [List.getElem?_set_ne (fun z => nj z.symm)] at h3
    rcases set_own h2 with ⟨rfl, e⟩ | ⟨nk, h2⟩
    · cases e
      rcases set_own h4 with ⟨_, e⟩ | ⟨nk, _⟩
      · cases e
        rw [w2.uniq w] at q2
        exact (no q q2 j c1 a F1 h1' h3 w1 q1).elim
      · exact (nk rfl).elim
    · rw [List.getElem?_set_ne (fun z => nk z.symm)] at h4
      exact E.d j k a b c1 c2 F1 F2 h1' h2 h3 h4 w1 w2 q q1 q2
theorem EnvS.freeT {p : Addr} (E : EnvS W tp0 G0 H0 tp G H σ ρ τ) (n : H p = none) : H0 p = none := by
  cases q : H0 p with
  | none => rfl
  | some o =>
    exact (E.e.x p (by rw [q]; simp) n).elim
theorem EnvS.setO {i : Nat} {p : Addr} {c : OC} {F : List Addr} (E : EnvS W tp0 G0 H0 tp G H σ ρ τ) (w : OwR W G H p c F) (fr : ∀ q ∈ F, G q = none ∧ NoM tp G q) (no : ∀ q ∈ F, FreeP W G H σ ρ q) (n0 : ∀ q ∈ F, H0 q = none) :
    EnvS W tp0 G0 H0 tp G H (σ.set i (some (.ref p))) (ρ.set i (some (.ow c))) τ := by
  refine ⟨E.v.setO w fr no, E.e, fun j c' a F' h1 h2 w' => ?_, E.t⟩
  rcases set_own h1 with ⟨rfl, e⟩ | ⟨nj, h1⟩
  · cases e
    rcases set_own h2 with ⟨_, e⟩ | ⟨nj, _⟩
    · cases e
      rw [w'.uniq w]
      exact n0
    · exact (nj rfl).elim
  · rw [List.getElem?_set_ne (fun z => nj z.symm)] at h2
    exact E.o j c' a F' h1 h2 w'
theorem ds_setO {i : Nat} {δ : PEnv → TS' → R OC} (he : DnF W Wx te δ) : DnS W Wx (tAsg te (gName i)) (dSetO i δ) := fun tp0 G0 H0 tp G H σ ρ τ D E P => by
  refine he _ _ _ _ _ _ _ E.v ?_
  unfold dSetO at P
  cases h : δ ρ τ with
  | no => rw [h] at P; exact P.elim
  | ex x τ1 => rw [h] at P; exact fun d G1 H1 e1 E1 hx => P d tp G1 H1 σ e1.g (E.step e1 E1) hx
  | ok c τ1 =>
    rw [h] at P
    intro p F G1 H1 e1 E1 w fr
    exact P tp G1 H1 _ e1.g ((E.step e1 E1).setO w (fun q hq => (fr q hq).2) (fun q hq => (E.v.noO (fr q hq).1).ext E.v e1) (fun q hq => E.freeT (fr q hq).1))
theorem set_self {α : Type} {l : List (Option α)} {i : Nat} {x : α} (h : l[i]? = some (some x)) : l.set i (some x) = l := by
  apply List.ext_getElem?
  intro n
  by_cases hn : i = n
  · subst hn
    rw [List.getElem?_set_self (List.getElem?_eq_some_iff.mp h).1, h]
  · rw [List.getElem?_set_ne hn]
theorem SB.mutF {F : List Addr} (g : SB W G H) (hH : ∀ q o, q ∉ F → H q = some o → H' q = some o) (hF : ∀ q ∈ F, G.hp q = none) (n : ∀ q ∈ F, NT H q) : SB W G H' :=
  ⟨fun q o hq => hH q o (fun z => by rw [hF q z] at hq; cases hq) (g.s q o hq), tabs_keep g.t fun p o ho h => hH p o (fun z => by
    obtain ⟨u, hu, hn⟩ := n p z
    rw [h] at hu
    cases hu
    rw [ho] at hn
    cases hn) h, g.n⟩
theorem TapeO.mutF {F : List Addr} (t : TapeO W G H tp τ) (hH : ∀ q o, q ∉ F → H q = some o → H' q = some o) (n : ∀ q ∈ F, NoM tp G q) : TapeO W G H' tp τ := by
  match tp, τ, t, n with
  | none, none, _, _ => trivial
  | some a, some τ, t, n =>
    obtain ⟨g, ⟨c, s, h⟩, ⟨u, hu, hn⟩, st⟩ := t
    have ha : a ∉ F := fun z => (n a z a rfl).1 rfl
    exact ⟨g, ⟨c, s, hH a _ ha h⟩, ⟨u, hH a _ ha hu, hn⟩, st.keep (GS.refl _) rfl (fun _ _ z => z) fun b hb u h => hH b u (fun z => (n b z a rfl).2 hb) h⟩
/-- an owned thing changes: nothing but its nodes; new nodes are of nobody -/
theorem EnvS.mutG {i : Nat} {a : Addr} {c c' : OC} {F F' : List Addr} (E : EnvS W tp0 G0 H0 tp G H σ ρ τ) (hi : ρ[i]? = some (some (PV.ow c))) (ha : σ[i]? = some (some (V.ref a))) (w : OwR W G H a c F)
    (hH : ∀ q o, q ∉ F → H q = some o → H' q = some o) (w' : OwR W G H' a c' F') (hF : ∀ q ∈ F', q ∈ F ∨ (FreeP W G H σ ρ q ∧ G q = none ∧ NoM tp G q ∧ H0 q = none)) :
    EnvS W tp0 G0 H0 tp G H' σ (ρ.set i (some (.ow c'))) τ := by
  obtain ⟨F0, w0, gn⟩ := E.v.own hi ha
  cases w0.uniq w
  have kp : ∀ {j : Nat} {d : OC} {b : Addr} {F1 : List Addr}, j ≠ i → ρ[j]? = some (some (PV.ow d)) → σ[j]? = some (some (V.ref b)) → OwR W G H b d F1 → OwR W G H' b d F1 := fun {j d b F1} hj h1 h2 w1 => w1.keep (GS.refl _) fun q hq o => hH q o fun z => hj (E.v.d j i b a d c F1 F h1 hi h2 ha w1 w q hq z)
  have gs : SB W G H' := E.v.g.mutF hH (fun q hq => (gn q hq).1) w.nt
  have fr' : ∀ q ∈ F', G q = none ∧ NoM tp G q := fun q hq => (hF q hq).elim (gn q) fun z => ⟨z.2.1, z.2.2.1⟩
  have bk : ∀ {j : Nat} {d : OC} {b : Addr} {F1 : List Addr}, j ≠ i → ρ[j]? = some (some (PV.ow d)) → σ[j]? = some (some (V.ref b)) → OwR W G H' b d F1 → OwR W G H b d F1 := fun {j d b F1} hj h1 h2 w1 => by
    obtain ⟨F2, w2, _⟩ := E.v.own h1 h2
    rw [w1.uniq (kp hj h1 h2 w2)]
    exact w2
  have dj : ∀ {j : Nat} {d : OC} {b : Addr} {F1 : List Addr}, j ≠ i → ρ[j]? = some (some (PV.ow d)) → σ[j]? = some (some (V.ref b)) → OwR W G H b d F1 → ∀ q ∈ F', q ∉ F1 := fun {j d b F1} hj h1 h2 w1 q hq q1 => by
    rcases hF q hq with z | z
    · exact hj (E.v.d j i b a d c F1 F h1 hi h2 ha w1 w q q1 z)
    · exact z.1 j d b F1 h1 h2 w1 q1
  have hl : i < ρ.length := (List.getElem?_eq_some_iff.mp hi).1
  refine ⟨⟨gs, ?_, fun j k b1 b2 c1 c2 F1 F2 h1 h2 h3 h4 w1 w2 q q1 q2 => ?_, ?_⟩, ⟨E.e.g, fun p u n t h => hH p u (fun z => ?_) (E.e.h p u n t h), E.e.f, fun p hp => ?_, E.e.w, E.e.z⟩, fun j c1 b F1 h1 h2 w1 q hq => ?_, E.t⟩
  · have base : Paired (fun x y => SlotR W tp G H' x y ∨ ∃ c, y = some (PV.ow c)) σ ρ := Paired.mapI E.v.s fun j v q hv hq h => by
      match v, q, h with
      | _, none, _ => exact .inl (by cases v <;> trivial)
      | some v, some (.fr d), h => exact .inl h
      | some v, some (.ow c1), h => exact .inr ⟨_, rfl⟩
      | some v, some .tape, h => exact .inl h
      | some v, some (.scr ns), h => exact .inl h
      | some v, some (.fn x), h => exact .inl h
      | some v, some .thk, ⟨f, c1, q1, g, a1, b, s, n, h⟩ => exact .inl ⟨f, c1, q1, g, a1, b, s, n, hH c1 _ (fun z => code_ne h (w.nt c1 z) rfl) h⟩
    have fin : Paired (SlotR W tp G H') (σ.set i (some (V.ref a))) (ρ.set i (some (PV.ow c'))) := by
      have := Paired.setL (F := fun x y => SlotR W tp G H' x y ∨ ∃ c, y = some (PV.ow c)) (x := some (V.ref a)) (y := some (PV.ow c')) (.inr ⟨_, rfl⟩) i base
      refine Paired.mapI this fun j v q hv hq h => ?_
      rcases h with h | ⟨c1, rfl⟩
      · exact h
      · rcases set_own hq with ⟨rfl, e⟩ | ⟨nj, hq⟩
        · cases e
          rw [set_self ha] at hv
          rw [ha] at hv
          cases hv
          exact ⟨a, F', rfl, w', fr'⟩
        · rw [List.getElem?_set_ne (fun z => nj z.symm)] at hv
          obtain ⟨b, F1, h2, w1, gn1⟩ := E.v.ownS hq
          rw [hv] at h2
          cases h2
          exact ⟨b, F1, rfl, kp nj hq hv w1, gn1⟩
    rw [set_self ha] at fin
    exact fin
  · rcases set_own h1 with ⟨rfl, e⟩ | ⟨nj, h1'⟩
    · cases e
      rcases set_own h2 with ⟨rfl, _⟩ | ⟨nk, h2⟩
      · rfl
      · rw [ha] at h3
        cases h3
        rw [w1.uniq w'] at q1
        exact (dj nk h2 h4 (bk nk h2 h4 w2) q q1 q2).elim
    · rcases set_own h2 with ⟨rfl, e⟩ | ⟨nk, h2⟩
      · cases e
        rw [ha] at h4
        cases h4
        rw [w2.uniq w'] at q2
        exact (dj nj h1' h3 (bk nj h1' h3 w1) q q2 q1).elim
      · exact E.v.d j k b1 b2 c1 c2 F1 F2 h1' h2 h3 h4 (bk nj h1' h3 w1) (bk nk h2 h4 w2) q q1 q2
  · exact E.v.t.mutF hH fun q hq => (gn q hq).2
  · rw [E.o i c a F hi ha w p z] at h
    cases h
  · have z := E.e.x p hp
    cases q : H p with
    | none => exact (z q).elim
    | some o => rw [hH p o (fun hF => hp (E.o i c a F hi ha w p hF)) q]; simp
  · rcases set_own h1 with ⟨rfl, e⟩ | ⟨nj, h1⟩
    · cases e
      rw [ha] at h2
      cases h2
      rw [w1.uniq w'] at hq
      rcases hF q hq with z | z
      · exact E.o _ c a F hi ha w q z
      · exact z.2.2.2
    · exact E.o j c1 b F1 h1 h2 (bk nj h1 h2 w1) q hq
/-- a list or dict of a slot changes -/
theorem EnvS.mut {i : Nat} {a : Addr} {c c' : OC} {o : HO} (E : EnvS W tp0 G0 H0 tp G H σ ρ τ) (hi : ρ[i]? = some (some (PV.ow c))) (ha : σ[i]? = some (some (V.ref a))) (w : OwR W G H a c [a]) (w' : OwR W G (upd H a o) a c' [a]) :
    EnvS W tp0 G0 H0 tp G (upd H a o) σ (ρ.set i (some (.ow c'))) τ :=
  E.mutG hi ha w (fun q u hq h => by rw [upd_ne (fun z => hq (by rw [z]; simp))]; exact h) w' fun q hq => .inl hq
theorem EnvS.getO {i : Nat} {c : OC} (E : EnvS W tp0 G0 H0 tp G H σ ρ τ) (hi : ρ[i]? = some (some (PV.ow c))) : ∃ a F, σ[i]? = some (some (V.ref a)) ∧ OwR W G H a c F := by
  obtain ⟨a, F, h, w, _⟩ := E.v.ownS hi
  exact ⟨a, F, h, w⟩
/-- x.append(e) -/
def dApp (i : Nat) (e : DE) : DS := fun ρ τ => match ρ[i]? with
  | some (some (.ow (.lst xs))) => stE (e ρ τ) ρ fun d τ1 => if xs.length < sizeLine then .ok (.nx (ρ.set i (some (.ow (.lst (xs ++ [d])))))) τ1 else .no
  | _ => .no
theorem ds_app {i : Nat} (he : Dn W Wx te δe) : DnS W Wx (tDrop (tBM W.K "list" rAppend (tVar i) (tCons te tNil))) (dApp i δe) := fun tp0 G0 H0 tp G H σ ρ τ D E P => by
  unfold dApp at P
  split at P
  · rename_i xs hi
    obtain ⟨a, _, ha, rfl, vs, hv, rv⟩ := E.getO hi
    refine ⟨_, ha, .inl ⟨rfl, vs, SqL.of hv⟩, he _ _ _ _ _ _ _ E.v (P.bind E fun d τ1 y G1 H1 E1 e1 r1 P1 => ?_)⟩
    obtain ⟨b, _, hb, rfl, ws, hw, rw'⟩ := E1.getO hi
    rw [ha] at hb
    cases hb
    by_cases hl : xs.length < sizeLine
    · rw [if_pos hl] at P1
      exact ⟨a, ws, y, rfl, rfl, hw, by rw [rw'.length]; exact hl, P1 tp G1 _ σ (GS.refl _) (E1.mut hi ha ⟨rfl, ws, hw, rw'⟩ ⟨rfl, _, upd_same, rw'.append (.cons r1 .nil)⟩)⟩
    · rw [if_neg hl] at P1
      exact P1.elim
  · exact P.elim
/-- x.extend(e) -/
def dExt (i : Nat) (e : DE) : DS := fun ρ τ => match ρ[i]? with
  | some (some (.ow (.lst xs))) => stE (e ρ τ) ρ fun d τ1 => match d with
    | .lst ys => if xs.length + ys.length ≤ sizeLine then .ok (.nx (ρ.set i (some (.ow (.lst (xs ++ ys)))))) τ1 else .no
    | _ => .no
  | _ => .no
/-- x.reverse(), x.clear() -/
def dRevO (i : Nat) : DS := fun ρ τ => match ρ[i]? with
  | some (some (.ow (.lst xs))) => .ok (.nx (ρ.set i (some (.ow (.lst xs.reverse))))) τ
  | _ => .no
/-- x[k] = e -/
def dPutL (i : Nat) (k e : DE) : DS := fun ρ τ => stE (e ρ τ) ρ fun d τ1 => match ρ[i]? with
  | some (some (.ow (.lst xs))) => stE (k ρ τ1) ρ fun n τ2 => match n with
    | .int n => match ixN xs.length n with
      | some j => .ok (.nx (ρ.set i (some (.ow (.lst (xs.set j d)))))) τ2
      | none => .no
    | _ => .no
  | _ => .no
mutual
def otD : OT → DD
  | .fr d => d
  | .nd .lst ts => .lst (otDs ts)
  | .nd (.dK ks) ts => .dic (ks.zip (otDs ts))
  | .nd (.obj C ns) ts => .obj C (ns.zip (otDs ts))
def otDs : List OT → List DD
  | [] => []
  | t :: ts => otD t :: otDs ts
end
def ocD : OC → DD
  | .lst xs => .lst xs
  | .dK xs => .dic xs
  | .tr k ts => otD (.nd k ts)
theorem rpk_zip {K : PySem.W.Frag} {cm : CM} : ∀ {ks : List Key} {vs : List V} {ds : List DD}, RpA K cm G vs ds → RpK K cm G (ks.zip vs) (ks.zip ds)
  | [], _, _, _ => .nil
  | k :: ks, _, _, .nil => .nil
  | k :: ks, _, _, .cons h r => .cons h (rpk_zip r)
theorem rpf_zip {K : PySem.W.Frag} {cm : CM} : ∀ {ks : List Str} {vs : List V} {ds : List DD}, RpA K cm G vs ds → RpF K cm G (ks.zip vs) (ks.zip ds)
  | [], _, _, _ => .nil
  | k :: ks, _, _, .nil => .nil
  | k :: ks, _, _, .cons h r => .cons h (rpf_zip r)
mutual
theorem Ow.rp : ∀ {v : V} {t : OT} {F : List Addr}, Ow W G H v t F → GS G G' → (∀ q ∈ F, G' q = H q) → Rp W.K W.cm G' v (otD t)
  | _, _, _, .fr r, g, _ => by rw [otD]; exact Rp.mono g r
  | _, _, _, .nd (a := a) (k := k) (vs := vs) (ts := ts) h r n, g, e => by
    have ra := OwA.rp r g fun q hq => e q (List.mem_cons_of_mem _ hq)
    have ea := e a List.mem_cons_self
    cases k with
    | lst => rw [otD]; exact .lst (by rw [ea]; exact h) ra
    | dK ks => rw [otD]; exact .dic (by rw [ea]; exact h.2) (rpk_zip ra)
    | obj C ns => rw [otD]; obtain ⟨_, dx, h⟩ := h; exact .obj (by rw [ea]; exact h) (rpf_zip ra)
theorem OwA.rp : ∀ {v : List V} {t : List OT} {F : List Addr}, OwA W G H v t F → GS G G' → (∀ q ∈ F, G' q = H q) → RpA W.K W.cm G' v (otDs t)
  | _, _, _, .nil, _, _ => by rw [otDs]; exact .nil
  | _, _, _, .cons h r n, g, e => by rw [otDs]; exact .cons (Ow.rp h g fun q hq => e q (List.mem_append_left _ hq)) (OwA.rp r g fun q hq => e q (List.mem_append_right _ hq))
end
theorem OwR.rp {a : Addr} {c : OC} {F : List Addr} (w : OwR W G H a c F) (g : GS G G') (e : ∀ q ∈ F, G' q = H q) : Rp W.K W.cm G' (.ref a) (ocD c) := by
  cases c with
  | lst xs => obtain ⟨rfl, vs, h, r⟩ := w; exact .lst (by rw [e a (by simp)]; exact h) (r.mono g)
  | dK xs => obtain ⟨rfl, vs, h, r⟩ := w; exact .dic (by rw [e a (by simp)]; exact h) (r.mono g)
  | tr k ts => exact Ow.rp (show Ow W G H _ _ _ from w) g e
/-- the heap of what stays, with some more -/
def upF (G : GH) (H : Hp) (F : List Addr) : GH := ⟨fun q => if q ∈ F then H q else G q, G.ads⟩
theorem upF_in {F : List Addr} : ∀ q ∈ F, (upF G H F).hp q = H q := fun q hq => if_pos hq
theorem upF_out {F : List Addr} {q : Addr} (h : q ∉ F) : (upF G H F).hp q = G.hp q := if_neg h
theorem upF_same {F : List Addr} (h : ∀ q ∈ F, G q = none) : GS G (upF G H F) := ⟨fun q o hq => by
  rw [upF_out (fun z => by rw [h q z] at hq; cases hq)]; exact hq, List.prefix_rfl⟩
theorem SB.upF {F : List Addr} (g : SB W G H) (n : ∀ q ∈ F, NT H q) : SB W (upF G H F) H := by
  refine ⟨fun q u hq => ?_, g.t, fun q hq => ?_⟩
  · by_cases z : q ∈ F
    · rw [upF_in q z] at hq
      exact hq
    · rw [upF_out z] at hq
      exact g.s q u hq
  · obtain ⟨ps, e, _⟩ := g.t q hq
    rw [upF_out (fun z => by
      obtain ⟨o, ho, hn⟩ := n q.1 z
      rw [e] at ho
      cases ho
      cases hn)]
    exact g.n q hq
/-- things that no slot has stay from now on -/
theorem EnvV.freezeF {F : List Addr} (E : EnvV W tp G H σ ρ τ) (g : ∀ q ∈ F, G q = none ∧ NoM tp G q) (n : ∀ q ∈ F, NT H q) (no : ∀ q ∈ F, FreeP W G H σ ρ q) : EnvV W tp (upF G H F) H σ ρ τ := by
  have s1 : GS G (upF G H F) := upF_same fun q hq => (g q hq).1
  refine ⟨E.g.upF n, Paired.mapI E.s fun j v q hv hq' h => ?_, fun i j a b c c' F1 F2 h1 h2 h3 h4 w w' => E.d i j a b c c' F1 F2 h1 h2 h3 h4 (E.back s1 (fun _ _ _ h => h) h1 h3 w) (E.back s1 (fun _ _ _ h => h) h2 h4 w'), ?_⟩
  · match v, q, h with
    | _, none, _ => cases v <;> trivial
    | some v, some (.fr d), h => exact Rp.mono s1 h
    | some v, some (.ow c), ⟨a, F1, r, w, gn⟩ =>
      subst r
      exact ⟨a, F1, rfl, w.keep s1 fun _ _ o h => h, fun q hq => ⟨by rw [upF_out (fun z => no q z j c a F1 hq' hv w hq)]; exact (gn q hq).1, (gn q hq).2⟩⟩
    | some v, some .tape, h => exact h
    | some v, some (.scr ns), ⟨a, r, q⟩ => exact ⟨a, r, s1.seq q⟩
    | some v, some (.fn x), h => exact h
    | some v, some .thk, ⟨f, c, q, g, a, b, s, n, h⟩ => exact ⟨f, c, q, g, a, b, s.trans s1, n, h⟩
  · refine E.t.frz s1.s rfl fun q hq hm => ?_
    cases tp with
    | none => exact .inr rfl
    | some a =>
      refine .inl ?_
      rw [upF_out (fun z => by rcases hm a rfl with h | h; exact ((g q z).2 a rfl).1 h; exact ((g q z).2 a rfl).2 h)]
      exact hq
def frz (i : Nat) (ρ : PEnv) : PEnv := match ρ[i]? with
  | some (some (.ow c)) => ρ.set i (some (.fr (ocD c)))
  | _ => ρ
def dFrz (i : Nat) (a : DS) : DS := fun ρ τ => a (frz i ρ) τ
theorem EnvV.frzO {i : Nat} {a : Addr} {c : OC} {F : List Addr} (E : EnvV W tp G H σ ρ τ) (hi : ρ[i]? = some (some (PV.ow c))) (ha : σ[i]? = some (some (V.ref a))) (w : OwR W G H a c F) :
    GS G (upF G H F) ∧ EnvV W tp (upF G H F) H σ (ρ.set i (some (.fr (ocD c)))) τ := by
  obtain ⟨F0, w0, gn⟩ := E.own hi ha
  cases w0.uniq w
  have s1 : GS G (upF G H F) := upF_same fun q hq => (gn q hq).1
  -- first the slot is emptied, then the thing stays, then the slot has it again
  have E1 : EnvV W tp G H (σ.set i none) (ρ.set i none) τ := E.setN
  have E2 := E1.freezeF (F := F) gn w.nt fun q hq j c' b F1 q1 q2 w1 z => by
    obtain ⟨n1, q1'⟩ := set_get q1 (by simp)
    obtain ⟨n2, q2'⟩ := set_get q2 (by simp)
    exact n1 (E.d j i b a c' c F1 F q1' hi q2' ha w1 w q z hq)
  have E3 := E2.setF (i := i) (w.rp s1 upF_in)
  rw [List.set_set, List.set_set, set_self ha] at E3
  exact ⟨s1, E3⟩
theorem EnvS.frz (E : EnvS W tp0 G0 H0 tp G H σ ρ τ) (i : Nat) : ∃ G', GS G G' ∧ EnvS W tp0 G0 H0 tp G' H σ (Np.frz i ρ) τ := by
  unfold Np.frz
  split
  · rename_i c hi
    obtain ⟨a, F, ha, w⟩ := E.getO hi
    obtain ⟨s, E'⟩ := E.v.frzO hi ha w
    refine ⟨_, s, E', ⟨E.e.g.trans s, E.e.h, fun p n hp hg => ?_, E.e.x, E.e.w, E.e.z⟩, fun j c' b F' q1 q2 w' => ?_, E.t⟩
    · rw [upF_out (fun z => hp (E.o i c a F hi ha w p z))]
      exact E.e.f p n hp hg
    · obtain ⟨n1, q1'⟩ := set_get q1 (by simp)
      exact E.o j c' b F' q1' q2 (E.v.back s (fun _ _ _ h => h) q1' q2 w')
  · exact ⟨G, GS.refl _, E⟩
theorem ds_frz {i : Nat} (h : DnS W Wx t δt) : DnS W Wx t (dFrz i δt) := fun tp0 G0 H0 tp G H σ ρ τ D E P => by
  obtain ⟨G', s, E'⟩ := E.frz i
  exact h _ _ _ _ _ _ _ _ _ _ E' (Ps.shift P s)
end
end Np
set_option Elab.async false
set_option linter.all false
set_option maxRecDepth 100000
set_option maxHeartbeats 4000000
namespace Np
open PySem PySem.Spec PyProof.Rows L2
section
variable {W : Wp} {Wx : L2.St → XK} {tp0 tp tp' : Option Addr} {G0 G G' : GH} {H0 H H' : Hp} {σ : L2.St} {ρ : PEnv} {τ τ' : TS'} {D : Ends}
variable {te : TE} {δe : DE} {t u : L2.TS} {δt δu : DS} {tc : TT} {δc : DT} {ta : TA} {δa : DA}
/-- how a turn of a loop ends -/
def turnEnd (r : R Ct) (k : PEnv → TS' → R Ct) : R Ct := match r with
  | .ok (.nx ρ) τ => k ρ τ
  | .ok (.ct ρ) τ => k ρ τ
  | .ok (.bk ρ) τ => .ok (.nx ρ) τ
  | r => r
def forL (g : Tg) (b : DS) : List DD → DS
  | [], ρ, τ => .ok (.nx ρ) τ
  | d :: ds, ρ, τ => match tgF g d ρ with
    | some ρ1 => turnEnd (b ρ1 τ) (forL g b ds)
    | none => .no
def dFor (i : DI) (g : Tg) (b : DS) : DS := fun ρ τ => stE (i ρ τ) ρ fun ds τ1 => forL g b ds ρ τ1
theorem Ps.turn {r : R Ct} {k : PEnv → TS' → R Ct} {N : L2.St → Hp → Prop} (P : Ps W Wx tp0 G0 H0 G D (turnEnd r k))
    (hN : ∀ ρ τ tp' G' H' σ', GS G G' → EnvS W tp0 G0 H0 tp' G' H' σ' ρ τ → Ps W Wx tp0 G0 H0 G' D (k ρ τ) → N σ' H') : Ps W Wx tp0 G0 H0 G { D with nx := N, ct := N, bk := D.nx } r := by
  match r, P with
  | .ok (.nx ρ) τ, P => exact fun tp' G' H' σ' s E => hN ρ τ tp' G' H' σ' s E (Ps.shift P s)
  | .ok (.ct ρ) τ, P => exact fun tp' G' H' σ' s E => hN ρ τ tp' G' H' σ' s E (Ps.shift P s)
  | .ok (.bk ρ) τ, P => exact P
  | .ok (.rt d) τ, P => exact P
  | .ok (.ro d) τ, P => exact P
  | .ok (.xc x ρ) τ, P => exact P
  | .ex x τ, P => exact P.elim
  | .no, P => exact P.elim
theorem ds_for {wi : TI} {δi : DI} {g : Tg} (hi : DnI W Wx wi δi) (hb : DnS W Wx t δt) : DnS W Wx (tFor wi (tgG W.K g) t) (dFor δi g δt) := fun tp0 G0 H0 tp G H σ ρ τ D E P =>
  hi _ _ _ _ _ _ _ E.v (P.bind E fun ds τ1 J G1 H1 E1 e1 it P1 => by
    have w : Walk J ds.length (fun H => SB W G1 H) (fun i H x H' => ∀ d Gc, ds[i]? = some d → GS G1 Gc → SB W Gc H → ∃ G', Ext none Gc H G' H' ∧ SB W G' H' ∧ Rp W.K W.cm G' x d) :=
      ⟨fun i H hi s => it.go i H s hi, fun H s => it.stop H s, fun i H x H' hi s y d Gc hd s1 s2 => it.yld i d Gc H x H' s1 s2 hd y⟩
    refine for_it w (fun i σc Hc => ∃ tpc Gc ρc τc, EnvS W tp0 G0 H0 tpc Gc Hc σc ρc τc ∧ GS G1 Gc ∧ Ps W Wx tp0 G0 H0 Gc D (forL g δt (ds.drop i) ρc τc)) ⟨tp, G1, ρ, τ1, E1, GS.refl _, P1⟩ (fun i σc Hc _ h => ?_) ?_ ?_
    · obtain ⟨tpc, Gc, ρc, τc, Ec, sc, _⟩ := h
      exact sc.sb Ec.v.g
    · rintro i x σc Hc Hc' hi ⟨tpc, Gc, ρc, τc, Ec, sc, Pc⟩ y
      obtain ⟨d, hd⟩ : ∃ d, ds[i]? = some d := ⟨ds[i], List.getElem?_eq_getElem hi⟩
      have hdr : ds.drop i = d :: ds.drop (i + 1) := by
        obtain ⟨h1, h2⟩ := List.getElem?_eq_some_iff.mp hd
        rw [List.drop_eq_getElem_cons h1, h2]
      obtain ⟨Gd, ed, sd, rd⟩ := y d Gc hd sc Ec.v.g
      have Ed := Ec.step ed.weak (Ec.v.grow ed sd)
      rw [hdr, forL] at Pc
      cases hf : tgF g d ρc with
      | none => rw [hf] at Pc; exact Pc.elim
      | some ρ1 =>
        rw [hf] at Pc
        refine tg_run g Ed.v rd hf fun σ2 E2 s2 _ => hb _ _ _ _ _ _ _ _ _ _ (Ed.sub E2 s2) (Ps.turn (Ps.shift Pc ed.g) fun ρ3 τ3 tp3 G3 H3 σ3 s3 E3 P3 => ?_)
        exact ⟨tp3, G3, ρ3, τ3, E3, sc.trans (ed.g.trans s3), P3⟩
    · rintro σc Hc ⟨tpc, Gc, ρc, τc, Ec, sc, Pc⟩
      rw [List.drop_length, forL] at Pc
      exact Pc tpc Gc Hc σc (GS.refl _) Ec)
def hid : Option PV → Option PV
  | some .tape => none
  | p => p
def bor (i : Nat) (c : OC) (ρ : PEnv) : PEnv := (ρ.map hid).set i (some (.fr (ocD c)))
def flatD : DD → Bool
  | .non => true
  | .bl _ => true
  | .int _ => true
  | .str _ => true
  | _ => false
theorem Paired.mapR {α β γ : Type} {F : α → β → Prop} {F' : α → γ → Prop} {f : β → γ} : ∀ {xs : List α} {ys : List β}, Paired F xs ys → (∀ x y, F x y → F' x (f y)) → Paired F' xs (ys.map f)
  | _, _, .nil, _ => .nil
  | _, _, .cons h t, k => .cons (k _ _ h) (Paired.mapR t k)
theorem hid_ow {ρ : PEnv} {j : Nat} {c : OC} (h : (ρ.map hid)[j]? = some (some (PV.ow c))) : ρ[j]? = some (some (PV.ow c)) := by
  rw [List.getElem?_map] at h
  obtain ⟨p, h1, h2⟩ := Option.map_eq_some_iff.mp h
  rw [h1]
  cases p with
  | none => cases h2
  | some p => cases p <;> first | (cases h2; done) | (exact congrArg some h2)
theorem EnvV.hide (E : EnvV W tp G H σ ρ τ) : EnvV W none G H σ (ρ.map hid) none := by
  refine ⟨E.g, Paired.mapR E.s fun x y h => ?_, fun i j a b c c' F F' h1 h2 => E.d i j a b c c' F F' (hid_ow h1) (hid_ow h2), trivial⟩
  match x, y, h with
  | _, none, _ => cases x <;> trivial
  | some v, some (.fr d), h => exact h
  | some v, some (.ow c), ⟨a, F, r, w, gn⟩ => exact ⟨a, F, r, w, fun q hq => ⟨(gn q hq).1, NoM.none⟩⟩
  | some v, some .tape, h => trivial
  | some v, some (.scr ns), h => exact h
  | some v, some (.fn x), h => exact h
  | some v, some .thk, ⟨f, c, q, g, a, b, s, n, h⟩ => exact ⟨f, c, q, g, a, b, s, NoM.none, h⟩
theorem EnvV.after {G1 G2 : GH} (E : EnvV W tp G H σ ρ τ) (s : GS G G1) (e : Ext none G1 H G2 H') (g : SB W G2 H') : Ext tp G H G H' ∧ EnvV W tp G H' σ ρ τ := by
  have e0 := e
  have e : Ext none G H G H' := ⟨GS.refl _, fun p o _ => e.h p o NoM.none, fun _ _ _ q => q, e.x, fun _ => .inl, fun _ => rfl⟩
  exact ⟨e.weak, E.grow e ⟨(s.s.trans e0.g.s).trans g.s, g.t, E.g.n⟩⟩
/-- e, where an owned slot is looked at: a flat answer -/
def dBor (i : Nat) (e : DE) : DE := fun ρ τ => match ρ[i]? with
  | some (some (.ow c)) => match e (bor i c ρ) none with
    | .ok d _ => if flatD d = true then .ok d τ else .no
    | _ => .no
  | _ => .no
def dBorT (i : Nat) (e : DT) : DT := fun ρ τ => match ρ[i]? with
  | some (some (.ow c)) => match e (bor i c ρ) none with
    | .ok d _ => .ok d τ
    | _ => .no
  | _ => .no
end
abbrev Fn := List PV → TS' → R DD
def FnPost (W : Wp) (tp : Option Addr) (G : GH) (H : Hp) (Q : VK) (E : XK) : R DD → Prop
  | .ok d τ' => ∀ v G' H', Ext tp G H G' H' → SB W G' H' → TapeO W G' H' tp τ' → Rp W.K W.cm G' v d → Q v H'
  | .ex x τ' => ∀ d G' H', Ext tp G H G' H' → SB W G' H' → TapeO W G' H' tp τ' → ExR W G' H' x d → E (.ref (W.cm x.cls)) d H'
  | .no => False
def spP (W : Wp) (k : Nat) (F : Fn) : Sp := fun vs H Q E => vs.length = k ∧ ∃ tp G as τ, SB W G H ∧ Paired (ArgR W tp G) vs as ∧ TapeO W G H tp τ ∧ FnPost W tp G H Q E (F as τ)
def fixT (τ τ' : TS') : TS' := if τ.isNone then none else τ'
def startP (n : Nat) (as : List PV) : PEnv := as.map some ++ List.replicate (n - as.length) none
def bodyF (n : Nat) (δ : DS) : Fn := fun as τ => match δ (startP n as) τ with
  | .ok (.rt d) τ' => .ok d (fixT τ τ')
  | .ok (.nx _) τ' => .ok .non (fixT τ τ')
  | .ok (.xc x _) τ' => .ex x (fixT τ τ')
  | _ => .no
theorem Paired.len {α β : Type} {F : α → β → Prop} : ∀ {xs : List α} {ys : List β}, Paired F xs ys → xs.length = ys.length
  | _, _, .nil => rfl
  | _, _, .cons _ t => congrArg Nat.succ (Paired.len t)
section
variable {W : Wp} {tp : Option Addr} {G G' : GH} {H H' : Hp} {τ τ' : TS'}
theorem arg_slot {v : V} {p : PV} (h : ArgR W tp G v p) : SlotR W tp G H (some v) (some p) := by
  cases p with
  | fr d => exact h
  | ow c => exact h.elim
  | tape => exact h
  | scr ns => exact h
  | fn x => exact h
  | thk => exact h.elim
theorem start_env {N : List Str} {vs : List V} {as : List PV} (s : SB W G H) (a : Paired (ArgR W tp G) vs as) (t : TapeO W G H tp τ) : EnvS W tp G H tp G H (L2.start N vs) (startP N.length as) τ := by
  have hnoow : ∀ (j : Nat) (c : OC), (startP N.length as)[j]? ≠ some (some (PV.ow c)) := by
    intro j c h
    unfold startP at h
    have hm := List.mem_of_getElem? h
    rcases List.mem_append.mp hm with q | q
    · obtain ⟨p, hp, e⟩ := List.mem_map.mp q
      cases e
      clear h hm q
      induction a with
      | nil => cases hp
      | cons h t ih =>
        rcases List.mem_cons.mp hp with z | z
        · subst z; exact h
        · exact ih z
    · have := List.eq_of_mem_replicate q
      cases this
  refine ⟨⟨s, ?_, fun i j a b c c' F F' h => (hnoow i c h).elim, t⟩, Ext.refl, fun j c b F h => (hnoow j c h).elim, .inl rfl⟩
  unfold L2.start startP
  rw [Paired.len a]
  have h1 : Paired (SlotR W tp G H) (vs.map some) (as.map some) := by
    clear hnoow
    induction a with
    | nil => exact .nil
    | cons h t ih => exact .cons (arg_slot h) ih
  have h2 : ∀ n, Paired (SlotR W tp G H) (List.replicate n none) (List.replicate n none) := by
    intro n
    induction n with
    | zero => exact .nil
    | succ n ih => exact .cons trivial ih
  have h3 : ∀ {xs xs' : List (Option V)} {ys ys' : List (Option PV)}, Paired (SlotR W tp G H) xs ys → Paired (SlotR W tp G H) xs' ys' → Paired (SlotR W tp G H) (xs ++ xs') (ys ++ ys') := by
    intro xs xs' ys ys' a b
    induction a with
    | nil => exact b
    | cons h t ih => exact .cons h ih
  exact h3 h1 (h2 _)
theorem fix_tape {tp' : Option Addr} (h : TapeO W G H tp τ) (h' : TapeO W G' H' tp' τ') (e : tp' = tp ∨ tp = none) : TapeO W G' H' tp (fixT τ τ') := by
  unfold fixT
  cases τ with
  | none =>
    cases tp with
    | none => trivial
    | some a => exact h.elim
  | some t =>
    rcases e with rfl | rfl
    · exact h'
    · exact h.elim
/-- a def's body keeps the promise -/
theorem body_ok {N : List Str} {k : Nat} {t : L2.TS} {δ : DS} {vs : List V} {Q : VK} {E : XK} (ht : DnS W (fun _ => E) t δ) (h : spP W k (bodyF N.length δ) vs H Q E) : t { nx := fun _ H' => Q .non H', rt := Q } (L2.start N vs) H := by
  obtain ⟨_, tp, G, as, τ, s, a, tt, h⟩ := h
  refine ht _ _ _ _ _ _ _ _ _ _ (start_env (N := N) s a tt) ?_
  unfold bodyF at h
  revert h
  match δ (startP N.length as) τ with
  | .ok (.rt d) τ' => exact fun h v tp' G' H' e s' t' q r => h v G' H' e s' (fix_tape tt t' q) r
  | .ok (.nx ρ) τ' => exact fun h tp' G' H' σ' s' E' => h .non G' H' E'.e E'.v.g (fix_tape tt E'.v.t (E'.t.imp id fun z => z.1)) .non
  | .ok (.xc x ρ) τ' => exact fun h d tp' G' H' σ' s' E' hx => h d G' H' E'.e E'.v.g (fix_tape tt E'.v.t (E'.t.imp id fun z => z.1)) hx
  | .ok (.bk ρ) τ' => exact fun h => h.elim
  | .ok (.ro ρ) τ' => exact fun h => h.elim
  | .ok (.ct ρ) τ' => exact fun h => h.elim
  | .ex x τ' => exact fun h => h.elim
  | .no => exact fun h => h.elim
def dpNil : DPs := fun _ τ => .ok [] τ
def dpCons (a : DP) (r : DPs) : DPs := fun ρ τ => (a ρ τ).bind fun x τ1 => (r ρ τ1).bind fun xs τ2 => .ok (x :: xs) τ2
def dpE (a : DE) : DP := fun ρ τ => (a ρ τ).bind fun x τ1 => .ok (.fr x) τ1
def dpT (i : Nat) : DP := fun ρ τ => match ρ[i]? with
  | some (some .tape) => .ok .tape τ
  | some (some (.scr ns)) => .ok (.scr ns) τ
  | _ => .no
variable {Wx : L2.St → XK} {ta : TE} {tr : TA} {δa : DE} {δp : DP} {δr : DPs}
theorem dp_e (ha : Dn W Wx ta δa) : DnP W Wx ta (dpE δa) := fun tp G H σ ρ τ Q E P =>
  ha _ _ _ _ _ _ _ E (P.bind fun a τ1 x G1 H1 e1 E1 r1 P1 => P1 x G1 H1 Ext.refl E1 r1)
theorem dp_t {i : Nat} : DnP W Wx (tVar i) (dpT i) := fun tp G H σ ρ τ Q E P => by
  unfold dpT at P
  split at P
  · rename_i h
    obtain ⟨x, h1, h2⟩ := Paired.getL E.s h
    cases x with
    | none => exact h2.elim
    | some v => exact ⟨v, h1, P v G H Ext.refl E h2⟩
  · rename_i ns h
    obtain ⟨x, h1, h2⟩ := Paired.getL E.s h
    cases x with
    | none => exact h2.elim
    | some v => exact ⟨v, h1, P v G H Ext.refl E h2⟩
  · exact P.elim
theorem dps_nil : DnPs W Wx tNil dpNil := fun tp G H σ ρ τ Q E P => P [] G H Ext.refl E .nil
theorem ArgR.mono {v : V} {p : PV} (h : ArgR W tp G v p) (s : GS G G') : ArgR W tp G' v p := by
  cases p with
  | fr d => exact Rp.mono s h
  | ow c => exact h
  | tape => exact h
  | scr ns => obtain ⟨a, r, q⟩ := h; exact ⟨a, r, s.seq q⟩
  | fn x => exact h
  | thk => exact h
theorem args_mono {vs : List V} {ps : List PV} (h : Paired (ArgR W tp G) vs ps) (s : GS G G') : Paired (ArgR W tp G') vs ps := by
  induction h with
  | nil => exact .nil
  | cons h t ih => exact .cons (h.mono s) ih
theorem dps_cons (ha : DnP W Wx ta δp) (hr : DnPs W Wx tr δr) : DnPs W Wx (tCons ta tr) (dpCons δp δr) := fun tp G H σ ρ τ Q E P =>
  ha _ _ _ _ _ _ _ E (P.bind fun a τ1 x G1 H1 e1 E1 r1 P1 => hr _ _ _ _ _ _ _ E1 (P1.bind fun b τ2 y G2 H2 e2 E2 r2 P2 => P2 _ G2 H2 Ext.refl E2 (.cons (r1.mono e2.g) r2)))
theorem paired_app {α β : Type} {F : α → β → Prop} {xs xs' : List α} {ys ys' : List β} (a : Paired F xs ys) (b : Paired F xs' ys') : Paired F (xs ++ xs') (ys ++ ys') := by
  induction a with
  | nil => exact b
  | cons h t ih => exact .cons h ih
/-- f(x, ..), what it raises leaves -/
def dCallP (k : Nat) (F : Fn) (dv : List PV) (a : DPs) : DE := fun ρ τ => (a ρ τ).bind fun as τ1 => if as.length + dv.length = k then F (as ++ dv) τ1 else .no
def dCallN (k : Nat) (F : Fn) (dv : List PV) (a : DPs) : DE := fun ρ τ => (a ρ τ).bind fun as τ1 => if as.length + dv.length = k then (F (as ++ dv) τ1).nox else .no
theorem FnPost.of {Q : VK} {σ : L2.St} {ρ : PEnv} {r : R DD} (E1 : EnvV W tp G H σ ρ τ) (P : Pg W Wx (rE W) tp σ ρ G H Q r) : FnPost W tp G H Q (Wx σ) r := by
  cases r with
  | ok d τ' => exact fun v G' H' e s t r => P v G' H' e (E1.ext e s t) r
  | ex x τ' => exact fun d G' H' e s t hx => P d G' H' e (E1.ext e s t) hx
  | no => exact P
theorem dn_callN {k : Nat} {F : Fn} {dvs : List V} {dv : List PV} (hd : ∀ tp G, Paired (ArgR W tp G) dvs dv) (ha : DnPs W Wx tr δr) : Dn W Wx (tCallE (spP W k F) dvs W0 tr) (dCallN k F dv δr) := fun tp G H σ ρ τ Q E P =>
  ha _ _ _ _ _ _ _ E (P.bind fun as τ1 vs G1 H1 e1 E1 r1 P1 => by
    by_cases h : as.length + dv.length = k
    · rw [if_pos h] at P1
      refine ⟨by rw [List.length_append, Paired.len r1, Paired.len (hd tp G1)]; exact h, tp, G1, _, τ1, E1.g, paired_app r1 (hd tp G1), E1.t, ?_⟩
      revert P1
      cases F (as ++ dv) τ1 with
      | ok d τ' => exact fun P1 v G' H' e s t r => P1 v G' H' e (E1.ext e s t) r
      | ex x τ' => exact fun P1 => P1.elim
      | no => exact fun P1 => P1.elim
    · rw [if_neg h] at P1
      exact P1.elim)
/-- f(.., k=x ..) -/
def dCallKP (k n m : Nat) (F : Fn) (g : List PV → List PV → List PV) (a b : DPs) : DE := fun ρ τ => (a ρ τ).bind fun as τ1 => (b ρ τ1).bind fun bs τ2 => if as.length = n ∧ bs.length = m ∧ (g as bs).length = k then F (g as bs) τ2 else .no
def dCallKN (k n m : Nat) (F : Fn) (g : List PV → List PV → List PV) (a b : DPs) : DE := fun ρ τ => (a ρ τ).bind fun as τ1 => (b ρ τ1).bind fun bs τ2 => if as.length = n ∧ bs.length = m ∧ (g as bs).length = k then (F (g as bs) τ2).nox else .no
end
end Np
set_option Elab.async false
set_option linter.all false
set_option maxRecDepth 100000
set_option maxHeartbeats 4000000
namespace Np
open PySem PySem.Spec PyProof.Rows L2
def tauAt (t : Tau) : Int → Option DD
  | 0 => some (.lst (t.cells.map DD.int))
  | 1 => some (.int t.at')
  | 2 => some (.int t.left)
  | _ => none
def tauPut (t : Tau) : Int → Int → Option Tau
  | 1, n => some { t with at' := n }
  | 2, n => some { t with left := n }
  | _, _ => none
def dTp (i : Nat) (k : Int) : DE := fun ρ τ => match ρ[i]?, τ with
  | some (some .tape), some t => R.of (some t) (tauAt t k)
  | _, _ => .no
def dTpPut (i : Nat) (k : Int) (e : DE) : DS := fun ρ τ => stE (e ρ τ) ρ fun d τ1 => match ρ[i]?, τ1, d with
  | some (some .tape), some t, .int n => match tauPut t k n with
    | some t' => .ok (.nx ρ) (some t')
    | none => .no
  | _, _, _ => .no
section
variable {W : Wp} {Wx : L2.St → XK} {tp0 tp tp' : Option Addr} {G0 G G' : GH} {H0 H H' : Hp} {σ : L2.St} {ρ : PEnv} {τ τ' : TS'} {D : Ends} {te : TE} {δe : DE}
theorem EnvV.getT {i : Nat} {t : Tau} (E : EnvV W tp G H σ ρ (some t)) (hi : ρ[i]? = some (some PV.tape)) : ∃ a c, tp = some a ∧ σ[i]? = some (some (V.ref a)) ∧ G c = some (.lst (t.cells.map V.int)) ∧ H a = some (W.tk t c) ∧ G a = none := by
  obtain ⟨v, h1, h2⟩ := Paired.getL E.s hi
  cases v with
  | none => exact h2.elim
  | some v =>
    obtain ⟨a, rfl, rfl⟩ := h2
    have t : TapeR W G H a t := E.t
    obtain ⟨c, hc, h⟩ := t.c
    exact ⟨a, c, rfl, h1, hc, h, t.g⟩
/-- a cell that may change, changed -/
theorem EnvV.mutM {a p : Addr} {o : HO} {τ : TS'} {t' : Tau} (E : EnvV W (some a) G H σ ρ τ) (hp : p = a ∨ (p ∈ G.ads ∧ G.hp p = none)) (t : TapeR W G (upd H p o) a t') (np : NT H p) : EnvV W (some a) G (upd H p o) σ ρ (some t') := by
  have g : G.hp p = none := by
    rcases hp with rfl | hp
    · exact t.g
    · exact hp.2
  have nm : ∀ {F : List Addr}, (∀ q ∈ F, G.hp q = none ∧ NoM (some a) G q) → ∀ q ∈ F, q ≠ p := fun gn q hq z => by
    rcases hp with h | h
    · exact ((gn q hq).2 a rfl).1 (by rw [z, h])
    · exact ((gn q hq).2 a rfl).2 (by rw [z]; exact h.1)
  have bk : ∀ {i : Nat} {b : Addr} {d : OC} {F : List Addr}, ρ[i]? = some (some (PV.ow d)) → σ[i]? = some (some (V.ref b)) → OwR W G (upd H p o) b d F → OwR W G H b d F := fun {i b d F} h1 h2 w => by
    obtain ⟨F1, w1, gn⟩ := E.own h1 h2
    have w2 : OwR W G (upd H p o) b d F1 := w1.keep (GS.refl _) fun q hq o h => by rw [upd_ne (nm gn q hq)]; exact h
    rw [w.uniq w2]
    exact w1
  refine ⟨E.g.put g np, Paired.mapI E.s fun j v q hv hq h => ?_, fun i j b1 b2 c1 c2 F1 F2 h1 h2 h3 h4 w1 w2 => E.d i j b1 b2 c1 c2 F1 F2 h1 h2 h3 h4 (bk h1 h3 w1) (bk h2 h4 w2), t⟩
  match v, q, h with
  | _, none, _ => cases v <;> trivial
  | some v, some (.fr d), h => exact h
  | some v, some (.ow c), ⟨b, F, r, w, gn⟩ => exact ⟨b, F, r, w.keep (GS.refl _) fun q hq o h => by rw [upd_ne (nm gn q hq)]; exact h, gn⟩
  | some v, some .tape, h => exact h
  | some v, some (.scr ns), h => exact h
  | some v, some (.fn x), h => exact h
  | some v, some .thk, ⟨f, c, q, g, a1, b, s, n, h⟩ => exact ⟨f, c, q, g, a1, b, s, n, by rw [upd_ne (code_ne h np)]; exact h⟩
theorem EnvS.mutM {a p : Addr} {o : HO} {τ : TS'} {t' : Tau} (E : EnvS W tp0 G0 H0 (some a) G H σ ρ τ) (hp : p = a ∨ (p ∈ G.ads ∧ G.hp p = none)) (t : TapeR W G (upd H p o) a t') (np : NT H p) : EnvS W tp0 G0 H0 (some a) G (upd H p o) σ ρ (some t') := by
  have t0 : some a = tp0 := by
    rcases E.t with h | ⟨_, h⟩
    · exact h
    · exact h.elim
  refine ⟨E.v.mutM hp t np, ⟨E.e.g, fun q u n tb h => ?_, E.e.f, fun q hq => ?_, E.e.w, E.e.z⟩, fun j c1 b F h1 h2 w1 => ?_, E.t⟩
  · rw [upd_ne (fun z => ?_)]
    · exact E.e.h q u n tb h
    · rcases hp with q1 | q1
      · exact (n a t0.symm).1 (by rw [z, q1])
      · rcases E.e.w p q1.1 with q2 | q2
        · exact (n a t0.symm).2 (by rw [z]; exact q2)
        · rw [z, q2] at h; cases h
  · by_cases z : q = p
    · rw [z, upd_same]; simp
    · rw [upd_ne z]; exact E.e.x q hq
  · obtain ⟨F1, w2, gn⟩ := E.v.own h1 h2
    have w3 : OwR W G (upd H p o) b c1 F1 := w2.keep (GS.refl _) fun q hq o h => by
      rw [upd_ne (fun z => ?_)]
      · exact h
      · rcases hp with q1 | q1
        · exact ((gn q hq).2 a rfl).1 (by rw [z, q1])
        · exact ((gn q hq).2 a rfl).2 (by rw [z]; exact q1.1)
    rw [w1.uniq w3]
    exact E.o j c1 b F1 h1 h2 w2
theorem StR.put {a p : Addr} {o : HO} {st : List Nd} (t : StR W G H a st) (n : p ∉ G.ads) : StR W G (upd H p o) a st :=
  t.keep (GS.refl _) rfl (fun _ _ z => z) fun b hb u h => by rw [upd_ne (fun z => n (by rw [← z]; exact hb))]; exact h
theorem EnvS.putT {a c : Addr} {t t' : Tau} (E : EnvS W tp0 G0 H0 (some a) G H σ ρ (some t)) (hc : G c = some (.lst (t'.cells.map V.int))) (hst : t'.st = t.st) (hn : (W.tk t' c).nt = true) : EnvS W tp0 G0 H0 (some a) G (upd H a (W.tk t' c)) σ ρ (some t') := by
  have t0 : TapeR W G H a t := E.v.t
  exact E.mutM (.inl rfl) ⟨t0.g, ⟨c, hc, upd_same⟩, ⟨_, upd_same, hn⟩, by rw [hst]; exact t0.s.put t0.s.t⟩ t0.n
def cells0 (ns : List Int) : List Int := cutL ns none (some 63)
theorem cells0_eq (ns : List Int) : cutV (ns.map V.int) none (some 63) = (cells0 ns).map V.int := by
  unfold cutV cells0 cutL
  rw [List.length_map, ← List.map_drop, ← List.map_take]
def spTape (W : Wp) : Sp := fun vs H Q _ => ∃ (a : Addr) (ns : List Int), vs = [.ref a] ∧ SqL W.K H a (ns.map V.int) ∧ ∀ c p H', Same H H' → H c = none → H p = none → c ≠ p → H' c = some (.lst ((cells0 ns).map V.int)) → H' p = some (W.tk ⟨cells0 ns, 0, 0, []⟩ c) → Q (.ref p) H'
def dMkT (i j : Nat) : DS := fun ρ τ => match ρ[j]?, τ with
  | some (some (.scr ns)), none => .ok (.nx (ρ.set i (some .tape))) (some ⟨cells0 ns, 0, 0, []⟩)
  | _, _ => .no
/-- the heap but for the tables -/
def noTab (H : Hp) : GH := ⟨fun q => match H q with
  | some o => if o.tb = true then none else some o
  | none => none, []⟩
theorem noTab_same (H : Hp) : Same (noTab H).hp H := fun q o h => by
  unfold noTab at h
  dsimp only at h
  split at h
  · split at h
    · cases h
    · rename_i e _; rw [e]; exact h
  · cases h
theorem noTab_at {H : Hp} {q : Addr} {o : HO} (h : H q = some o) (t : o.tb = false) : (noTab H).hp q = some o := by
  unfold noTab
  dsimp only
  rw [h]
  simp [t]
theorem noTab_sb {W : Wp} {H : Hp} (t : LamX.Tabs W.T H) : SB W (noTab H) H := ⟨noTab_same H, t, fun p hp => by
  obtain ⟨ps, e, _⟩ := t p hp
  unfold noTab
  dsimp only
  rw [e]
  rfl⟩
theorem noTab_seq {K : PySem.W.Frag} {H : Hp} {a : Addr} {xs : List V} (h : SqL K H a xs) : SqL K (noTab H).hp a xs := by
  rcases h with (h | ⟨o, h⟩) | h
  · exact .inl (.inl (noTab_at h rfl))
  · exact .inl (.inr ⟨o, noTab_at h rfl⟩)
  · exact .inr h
theorem law_ok {N : List Str} {t : L2.TS} {i : Nat} {E' : L2.St → XK} {δ : DS} {vs : List V} {Q : VK} {E : XK} (hnt : ∀ τ c, (W.tk τ c).nt = true) (hl : ∀ ns : List Int, ns.length ≤ 63 → ∃ τ, bodyF N.length (dSeq (dMkT i 0) δ) [.scr ns] none = .ok (.bl true) τ) (ht : DnS W (fun _ => E) t δ) (hT : LamX.Tabs W.T H) (h : spL W.K vs H Q E) :
    tSeq (tAsg (tCallE (spTape W) [] E' (tCons (tVar 0) tNil)) (gName i)) t { nx := fun _ H' => Q .non H', rt := Q } (L2.start N vs) H := by
  obtain ⟨a, ns, rfl, hs, hn, k⟩ := h
  obtain ⟨τ, e⟩ := hl ns hn
  have s0 := noTab_sb (W := W) hT
  have E0 := (start_env (N := N) (vs := [.ref a]) (as := [.scr ns]) (tp := none) (τ := none) s0 (.cons ⟨a, rfl, noTab_seq hs⟩ .nil) trivial).v
  have h0 : (startP N.length [.scr ns])[0]? = some (some (.scr ns)) := rfl
  have h1 : (L2.start N [V.ref a])[0]? = some (some (V.ref a)) := rfl
  refine ⟨_, h1, a, ns, rfl, hs, fun c p H' s hc hp ne h3 h4 => ?_⟩
  have gc := s0.free hc
  have gp := s0.free hp
  generalize hG : noTab H = G at *
  have hGa : G.ads = [] := by rw [← hG]; rfl
  have s1 : GS G (G.upd c (.lst ((cells0 ns).map V.int))) := GS.new gc
  have E1 : EnvV W (some p) (G.upd c (.lst ((cells0 ns).map V.int))) H' (L2.start N [V.ref a]) (startP N.length [.scr ns]) (some ⟨cells0 ns, 0, 0, []⟩) := by
    refine ⟨(s0.trans s).frz h3 rfl, Paired.mapI E0.s fun k v q hv hq h => ?_, fun i j b1 b2 c1 c2 F1 F2 h1 h2 h3 h4 w1 w2 => E0.d i j b1 b2 c1 c2 F1 F2 h1 h2 h3 h4 (E0.back s1 (fun q o _ h => s q o h) h1 h3 w1) (E0.back s1 (fun q o _ h => s q o h) h2 h4 w2), ?_, ⟨c, upd_same, h4⟩, ⟨_, h4, hnt _ _⟩, ⟨by rw [show (G.upd c (.lst ((cells0 ns).map V.int))).ads = [] from hGa]; rfl, by rw [show (G.upd c (.lst ((cells0 ns).map V.int))).ads = [] from hGa]; exact List.nodup_nil, by rw [show (G.upd c (.lst ((cells0 ns).map V.int))).ads = [] from hGa]; simp, fun k nd b h => by simp at h, fun k nd b h => by simp at h⟩⟩
    · match v, q, h with
      | _, none, _ => cases v <;> trivial
      | some v, some (.fr d), h => exact Rp.mono s1 h
      | some v, some (.ow o), ⟨b, F, r, w, gn⟩ =>
        refine ⟨b, F, r, w.keep s1 fun q _ o h => s q o h, fun q hq => ⟨by show upd G.hp c _ q = none; rw [upd_ne (fun z => w.at q hq (by rw [z]; exact hc))]; exact (gn q hq).1, fun z hz => ?_⟩⟩
        cases hz
        exact ⟨fun z => w.at q hq (by rw [z]; exact hp), by show q ∉ G.ads; rw [hGa]; simp⟩
      | some v, some .tape, ⟨b, z, _⟩ => exact nomatch z
      | some v, some (.scr ns), ⟨b, r, q⟩ => exact ⟨b, r, s1.seq q⟩
      | some v, some (.fn x), h => exact h
      | some v, some .thk, ⟨f, c1, q, g, a1, b, sg, n, h⟩ => exact ⟨f, c1, q, g, a1, b, sg.trans s1, fun z hz => by cases hz; exact ⟨fun z => (by rw [z, hp] at h; cases h), (by show c1 ∉ G.ads; rw [hGa]; simp)⟩, s _ _ h⟩
    · show upd G.hp c _ p = none
      rw [upd_ne (fun z => ne z.symm)]
      exact gp
  have E2 := E1.setS (i := i) (v := some (.ref p)) (p := some .tape) ⟨p, rfl, rfl⟩ fun _ z => by cases z
  refine ht (some p) _ H' (some p) _ H' _ _ _ _ ⟨E2, Ext.refl, fun j c b F h => ?_, .inl rfl⟩ ?_
  · intro h2 w
    obtain ⟨x, y⟩ := Sub.set (σ := L2.start N [V.ref a]) (ρ := startP N.length [.scr ns]) (i := i) (v := some (V.ref p)) (p := some PV.tape) (fun _ z => by cases z) j c b h h2
    exfalso
    have hm := List.mem_of_getElem? x
    unfold startP at hm
    rcases List.mem_append.mp hm with q | q
    · simp at q
    · have := List.eq_of_mem_replicate q
      cases this
  · unfold bodyF dSeq dMkT at e
    rw [h0] at e
    dsimp only at e
    revert e
    match δ ((startP N.length [.scr ns]).set i (some .tape)) (some ⟨cells0 ns, 0, 0, []⟩) with
    | .ok (.rt d) τ' => exact fun e v tp' G' H' _ _ _ _ r => by cases e; cases r; exact k H'
    | .ok (.nx ρ) τ' => exact fun e => by cases e
    | .ok (.xc x ρ) τ' => exact fun e => by cases e
    | .ok (.bk ρ) τ' => exact fun e => by cases e
    | .ok (.ro ρ) τ' => exact fun e => by cases e
    | .ok (.ct ρ) τ' => exact fun e => by cases e
    | .ex x τ' => exact fun e => by cases e
    | .no => exact fun e => by cases e
def dRaise (cls : Str) (names : List Str) (a : DA) : DS := fun ρ τ => stE (a ρ τ) ρ fun ds τ1 => if ds.length = names.length ∧ ds.length ≤ 1000 then .ok (.xc ⟨cls, (names.zip ds).reverse⟩ ρ) τ1 else .no
theorem RpF.append : ∀ {v v' : List (Str × V)} {d d' : List (Str × DD)}, RpF W.K W.cm G v d → RpF W.K W.cm G v' d' → RpF W.K W.cm G (v ++ v') (d ++ d')
  | _, _, _, _, .nil, s => s
  | _, _, _, _, .cons h r, s => .cons h (RpF.append r s)
theorem RpF.reverse : ∀ {v : List (Str × V)} {d : List (Str × DD)}, RpF W.K W.cm G v d → RpF W.K W.cm G v.reverse d.reverse
  | _, _, .nil => .nil
  | _, _, .cons h r => by
    rw [List.reverse_cons, List.reverse_cons]
    exact (RpF.reverse r).append (.cons h .nil)
theorem RpF.zip : ∀ (ns : List Str) {v : List V} {d : List DD}, RpA W.K W.cm G v d → RpF W.K W.cm G (ns.zip v) (ns.zip d)
  | [], _, _, _ => .nil
  | _ :: _, _, _, .nil => .nil
  | n :: ns, _, _, .cons h r => .cons h (RpF.zip ns r)
end
end Np
set_option Elab.async false
set_option linter.all false
set_option maxRecDepth 100000
set_option maxHeartbeats 4000000
namespace Np
open PySem PySem.Spec PyProof.Rows L2
section
variable {W : Wp} {Wx : L2.St → XK} {tp0 tp tp' : Option Addr} {G0 G G' : GH} {H0 H H' : Hp} {σ : L2.St} {ρ : PEnv} {τ τ' : TS'} {D : Ends} {te ta tb : TE} {δe δa δb : DE} {tr : TA} {δr : DA}
def gNeg : DD → Option DD
  | .int i => some (.int (-i))
  | _ => none
def dNever : DS := fun _ _ => .no
theorem ds_never : DnS W Wx tNever dNever := fun _ _ _ _ _ _ _ _ _ _ _ P => P
def dListF (a : DA) : PEnv → TS' → R OC := fun ρ τ => (a ρ τ).bind fun x τ1 => match x with
  | [d] => match items? d with
    | some ds => .ok (.lst ds) τ1
    | none => .no
  | _ => .no
def dOpF (g : DD → DD → Option DD) (a b : DE) : PEnv → TS' → R OC := fun ρ τ => (a ρ τ).bind fun x τ1 => (b ρ τ1).bind fun y τ2 => match g x y with
  | some (.lst cs) => .ok (.lst cs) τ2
  | _ => .no
theorem PgF.mono {Q Q' : VK} {r : R OC} (P : PgF W Wx tp σ ρ G H Q r) (k : ∀ p H', H p = none → Q (.ref p) H' → Q' (.ref p) H') : PgF W Wx tp σ ρ G H Q' r := by
  cases r with
  | ok c τ => exact fun p F G' H' e E w fr => k p H' (fr p w.mem).1 (P p F G' H' e E w fr)
  | ex x τ => exact P
  | no => exact P
/-- a new thing that no slot has yet -/
structure Held (W : Wp) (tp : Option Addr) (G : GH) (H : Hp) (σ : L2.St) (ρ : PEnv) (p : Addr) (c : OC) (F : List Addr) : Prop where
  w : OwR W G H p c F
  fr : ∀ q ∈ F, G q = none ∧ NoM tp G q
  no : ∀ q ∈ F, FreeP W G H σ ρ q
theorem Held.ext {p : Addr} {c : OC} {F : List Addr} (h : Held W tp G H σ ρ p c F) (E : EnvV W tp G H σ ρ τ) (e : Ext tp G H G' H') : Held W tp G' H' σ ρ p c F :=
  ⟨h.w.ext h.fr e, fun q hq => ⟨e.f q (h.fr q hq).2 (h.w.at q hq) (h.fr q hq).1, e.nom (h.fr q hq).2 (h.w.at q hq)⟩, fun q hq => (h.no q hq).ext E e⟩
variable {φ ψ : PEnv → TS' → R OC}
def dParOO (i j : Nat) (a b : PEnv → TS' → R OC) : DS := fun ρ τ => stE (a ρ τ) ρ fun x τ1 => stE (b ρ τ1) ρ fun y τ2 => .ok (.nx ((ρ.set i (some (.ow x))).set j (some (.ow y)))) τ2
def dParOF (i j : Nat) (a : PEnv → TS' → R OC) (b : DE) : DS := fun ρ τ => stE (a ρ τ) ρ fun x τ1 => stE (b ρ τ1) ρ fun y τ2 => .ok (.nx ((ρ.set i (some (.ow x))).set j (some (.fr y)))) τ2
def dParFO (i j : Nat) (a : DE) (b : PEnv → TS' → R OC) : DS := fun ρ τ => stE (a ρ τ) ρ fun x τ1 => stE (b ρ τ1) ρ fun y τ2 => .ok (.nx ((ρ.set i (some (.fr x))).set j (some (.ow y)))) τ2
end
end Np
set_option Elab.async false
set_option linter.all false
set_option maxRecDepth 100000
set_option maxHeartbeats 4000000
namespace Np
open PySem PySem.Spec PyProof.Rows L2
theorem hu_of' {k : Nat} {A : Around} (hr : Room k A) : A.units + 1 < cLine := by have := hr.un; omega
section
variable {W : Wp} {Wx : L2.St → XK} {tp0 tp tp' : Option Addr} {G0 G G' : GH} {H0 H H' : Hp} {σ : L2.St} {ρ : PEnv} {τ τ' : TS'} {D : Ends} {te ta tb tc : TE} {δe δa δb δc : DE} {tr : TA} {δr : DA} {φ ψ : PEnv → TS' → R OC} {t : L2.TS} {δ : DS}
def tkD : Tau → Addr → HO := fun τ c => .dK [(.inr "cells", .ref c), (.inr "at", .int τ.at'), (.inr "left", .int τ.left)]
inductive Pk where
  | cells | at' | left
def Pk.str : Pk → Str
  | .cells => "cells"
  | .at' => "at"
  | .left => "left"
def tauGet (t : Tau) : Pk → DD
  | .cells => .lst (t.cells.map DD.int)
  | .at' => .int t.at'
  | .left => .int t.left
def tauSet (t : Tau) : Pk → Int → Option Tau
  | .cells, _ => none
  | .at', n => some { t with at' := n }
  | .left, n => some { t with left := n }
def dTd (i : Nat) (k : Pk) : DE := fun ρ τ => match ρ[i]?, τ with
  | some (some .tape), some t => .ok (tauGet t k) (some t)
  | _, _ => .no
theorem dn_td {i : Nat} {k : Pk} (hW : W.tk = tkD) : Dn W Wx (tDGet (tVar i) (tC (.str k.str))) (dTd i k) := fun tp G H σ ρ τ Q E P => by
  unfold dTd at P
  split at P
  · rename_i t hi
    obtain ⟨a, c, rfl, ha, hc, h, g⟩ := E.getT hi
    rw [hW] at h
    have h' : H a = some (.dK [(.inr "cells", .ref c), (.inr "at", .int t.at'), (.inr "left", .int t.left)]) := h
    cases k with
    | cells => exact ⟨_, ha, a, .ref c, rfl, DGet.k (k := .inr "cells") h', P _ G H Ext.refl E (.lst hc (RpA.ints _))⟩
    | at' => exact ⟨_, ha, a, .int t.at', rfl, DGet.k (k := .inr "at") h', P _ G H Ext.refl E (.int _)⟩
    | left => exact ⟨_, ha, a, .int t.left, rfl, DGet.k (k := .inr "left") h', P _ G H Ext.refl E (.int _)⟩
  · exact P.elim
def dTdPut (i : Nat) (k : Pk) (e : DE) : DS := fun ρ τ => stE (e ρ τ) ρ fun d τ1 => match ρ[i]?, τ1, d with
  | some (some .tape), some t, .int n => match tauSet t k n with
    | some t' => .ok (.nx ρ) (some t')
    | none => .no
  | _, _, _ => .no
theorem ds_tdPut {i : Nat} {k : Pk} (hW : W.tk = tkD) (he : Dn W Wx te δe) : DnS W Wx (sDPut (tVar i) (tC (.str k.str)) te) (dTdPut i k δe) := fun tp0 G0 H0 tp G H σ ρ τ D E P =>
  he _ _ _ _ _ _ _ E.v (P.bind E fun d τ1 y G1 H1 E1 e1 r1 P1 => by
    split at P1
    · rename_i t n hi
      obtain ⟨a, c, rfl, ha, hc, h, g⟩ := E1.v.getT hi
      rw [hW] at h
      have h' : H1 a = some (.dK [(.inr "cells", .ref c), (.inr "at", .int t.at'), (.inr "left", .int t.left)]) := h
      cases k with
      | cells => exact P1.elim
      | at' =>
        have q := P1 (some a) G1 _ σ (GS.refl _) (E1.putT (t' := { t with at' := n }) (c := c) hc rfl (by rw [hW]; rfl))
        rw [hW] at q
        refine ⟨_, ha, a, _, rfl, ?_, q⟩
        rw [r1.int_of]
        exact DPut.k (k := .inr "at") (v := .int n) h' (by show 3 < sizeLine; decide)
      | left =>
        have q := P1 (some a) G1 _ σ (GS.refl _) (E1.putT (t' := { t with left := n }) (c := c) hc rfl (by rw [hW]; rfl))
        rw [hW] at q
        refine ⟨_, ha, a, _, rfl, ?_, q⟩
        rw [r1.int_of]
        exact DPut.k (k := .inr "left") (v := .int n) h' (by show 3 < sizeLine; decide)
    · exact P1.elim)
def rgOk (a b : Int) : Prop := -(2 ^ 62) ≤ a ∧ a < 2 ^ 62 ∧ -(2 ^ 62) ≤ b ∧ b < 2 ^ 62 ∧ (b - a).toNat ≤ 2 ^ 24
instance (a b : Int) : Decidable (rgOk a b) := by unfold rgOk; infer_instance
def gRgL1 : DD → Option DD
  | .int b => if rgOk 0 b then some (.lst (rangeD 0 (b - 0).toNat)) else none
  | _ => none
def gRepr (d : DD) : Option DD := match toPy d, items? d with
  | some p, some _ => if PyData.showable p = true ∧ SeqAt.shaped p = true ∧ p.shown.length ≤ sizeLine then some (.str p.shown) else none
  | _, _ => none
theorem cd_repr : CallD W (rReprD W.K) (c1 gRepr) := by
  intro G H x a c Q s ra e k
  replace e := c1_eq e
  obtain ⟨d, rfl, e⟩ := e
  cases ra with | cons r rs =>
  cases rs
  unfold gRepr at e
  split at e
  · rename_i p l h1 h2
    obtain ⟨h, rfl⟩ := ifs e
    have dp := (r.mono s.gs).dp h1
    cases r <;> first | (cases h2; done) | (exfalso; rw [toPy] at h1 <;> first | (cases h1; done) | (intros; contradiction)) | skip
    · exact ⟨_, p, rfl, dp, h.1, h.2.1, h.2.2, k _ G H ext_n s (.str _)⟩
    · exact ⟨_, p, rfl, dp, h.1, h.2.1, h.2.2, k _ G H ext_n s (.str _)⟩
  · cases e
abbrev FnO := List PV → TS' → R OC
def FnPostO (W : Wp) (tp : Option Addr) (G : GH) (H : Hp) (Q : VK) (E : XK) : R OC → Prop
  | .ok c τ' => ∀ p F G' H', Ext tp G H G' H' → SB W G' H' → TapeO W G' H' tp τ' → OwR W G' H' p c F → (∀ q ∈ F, H q = none ∧ G' q = none ∧ NoM tp G' q) → Q (.ref p) H'
  | .ex x τ' => ∀ d G' H', Ext tp G H G' H' → SB W G' H' → TapeO W G' H' tp τ' → ExR W G' H' x d → E (.ref (W.cm x.cls)) d H'
  | .no => False
variable {Tr : TA} {δp δk : DPs} {k : Nat} {F : FnO} {dvs : List V} {dv : List PV}
def dCallOP (k : Nat) (F : FnO) (dv : List PV) (a : DPs) : PEnv → TS' → R OC := fun ρ τ => (a ρ τ).bind fun as τ1 => if as.length + dv.length = k then F (as ++ dv) τ1 else .no
def dCallON (k : Nat) (F : FnO) (dv : List PV) (a : DPs) : PEnv → TS' → R OC := fun ρ τ => (a ρ τ).bind fun as τ1 => if as.length + dv.length = k then (F (as ++ dv) τ1).nox else .no
theorem FnPostO.of {Q : VK} {r : R OC} (E1 : EnvV W tp G H σ ρ τ) (P : PgF W Wx tp σ ρ G H Q r) : FnPostO W tp G H Q (Wx σ) r := by
  cases r with
  | ok c τ' => exact fun p F G' H' e s t w fr => P p F G' H' e (E1.ext e s t) w fr
  | ex x τ' => exact fun d G' H' e s t hx => P d G' H' e (E1.ext e s t) hx
  | no => exact P
def dCallKON (k n m : Nat) (F : FnO) (g : List PV → List PV → List PV) (a b : DPs) : PEnv → TS' → R OC := fun ρ τ => (a ρ τ).bind fun as τ1 => (b ρ τ1).bind fun bs τ2 => if as.length = n ∧ bs.length = m ∧ (g as bs).length = k then (F (g as bs) τ2).nox else .no
/-- a new thing that stays from now on -/
def dFz (φ : PEnv → TS' → R OC) : DE := fun ρ τ => (φ ρ τ).bind fun c τ1 => .ok (ocD c) τ1
def dPar3 (i j l : Nat) (a : DA) : DS := fun ρ τ => stE (a ρ τ) ρ fun ds τ1 => match ds with
  | [d, e, f] => .ok (.nx (((ρ.set i (some (.fr d))).set j (some (.fr e))).set l (some (.fr f)))) τ1
  | _ => .no
theorem ds_par3 {i j l : Nat} (ha : DnA W Wx tr δr) : DnS W Wx (tPar3 i j l tr) (dPar3 i j l δr) := fun tp0 G0 H0 tp G H σ ρ τ D E P =>
  ha _ _ _ _ _ _ _ E.v (P.bind E fun ds τ1 vs G1 H1 E1 e1 r1 P1 => by
    split at P1
    · cases r1 with | cons r rs =>
      cases rs with | cons r' rs =>
      cases rs with | cons r'' rs =>
      cases rs
      exact ⟨_, _, _, rfl, P1 tp G1 H1 _ (GS.refl _) (((E1.setF r).setF r').setF r'')⟩
    · exact P1.elim)
def dPar3O (i j l : Nat) (a : PEnv → TS' → R OC) (b c : DE) : DS := fun ρ τ => stE (a ρ τ) ρ fun x τ1 => stE (b ρ τ1) ρ fun y τ2 => stE (c ρ τ2) ρ fun z τ3 => .ok (.nx (((ρ.set i (some (.ow x))).set j (some (.fr y))).set l (some (.fr z)))) τ3
end
end Np
set_option Elab.async false
set_option linter.all false
set_option maxRecDepth 100000
namespace Np
open PySem L2
end Np
set_option Elab.async false
set_option linter.all false
set_option maxRecDepth 100000
set_option maxHeartbeats 4000000
namespace Np
open PySem PySem.Spec PyProof.Rows L2
section
variable {W : Wp} {Wx : L2.St → XK}
def dAsgL (e : DE) (ts : List Tg) : DS := fun ρ τ => stE (e ρ τ) ρ fun d τ1 => match d with
  | .lst ds => match tgFs ts ds ρ with
    | some ρ1 => .ok (.nx ρ1) τ1
    | none => .no
  | _ => .no
end
end Np
set_option Elab.async false
set_option linter.all false
set_option maxRecDepth 100000
set_option maxHeartbeats 4000000
namespace Np
open PySem PySem.Spec PyProof.Rows L2
section
variable {W : Wp} {Wx : L2.St → XK}
def dTryK (exm : Str → Option Bool) (i j : Nat) (δ : DS) : DS := fun ρ τ => match δ ρ τ with
  | .ok (.xc x ρ1) τ1 => match exm x.cls with
    | some true => if i < ρ1.length then .ok (.nx ((ρ1.set j (some (.fr (.exc x.cls x.fs)))).set i none)) τ1 else .no
    | some false => .ok (.xc x ρ1) τ1
    | none => .no
  | r => r
end
end Np
set_option Elab.async false
set_option linter.all false
set_option maxRecDepth 100000
set_option maxHeartbeats 4000000
namespace Np
open PySem PySem.Spec PyProof.Rows L2
section
variable {W : Wp} {Wx : L2.St → XK} {te : TE} {δ : DE}
theorem Rp.kept {K : PySem.W.Frag} {cm : CM} {G : GH} {v : V} {C : Str} {fs : List (Str × DD)} (r : Rp K cm G v (.exc C fs)) : ∃ a d xs, v = .ref a ∧ Kept G a (cm C) d xs ∧ (d = none → xs = []) ∧ RpF K cm G xs fs := by
  cases r with
  | exc h z q h2 rf => exact ⟨_, _, _, rfl, ⟨⟨_, _, h, z, q⟩, fun dd e => by subst e; exact h2⟩, fun e => by subst e; exact h2, rf⟩
def dIsX (kit : Str → Option Bool) (a : DE) : DE := fun ρ τ => (a ρ τ).bind fun x τ1 => match x with
  | .exc C _ => R.of τ1 ((kit C).map .bl)
  | _ => .no
/-- kept.field -/
def dFx (ok : Str → Bool) (f : Str) (a : DE) : DE := fun ρ τ => (a ρ τ).bind fun x τ1 => match x with
  | .exc C fs => if ok C = true then R.of τ1 (fs.lookup f) else .no
  | _ => .no
theorem RpF.look {K : PySem.W.Frag} {cm : CM} {G : GH} {f : Str} : ∀ {xs : List (Str × V)} {fs : List (Str × DD)} {d : DD}, RpF K cm G xs fs → fs.lookup f = some d → ∃ v, xs.lookup f = some v ∧ Rp K cm G v d
  | _, _, _, .nil, h => nomatch h
  | (k, v) :: vs, (_, d') :: ds, d, .cons r rs, h => by
    rw [List.lookup_cons] at h
    rw [List.lookup_cons]
    cases q : f == k with
    | true => rw [q] at h; cases h; exact ⟨v, rfl, r⟩
    | false => rw [q] at h; exact RpF.look rs h
end
def tb0 : Str → Option Bool := fun _ => none
def tb (A : Str) (v : Bool) (r : Str → Option Bool) : Str → Option Bool := fun s => if s = A then some v else r s
theorem tb0_ok {P : Str → Bool → Prop} : ∀ s b, tb0 s = some b → P s b := fun _ _ h => nomatch h
end Np
set_option Elab.async false
set_option linter.all false
set_option maxRecDepth 100000
set_option maxHeartbeats 4000000
namespace Np
open PySem PySem.Spec PyProof.Rows L2
section
variable {W : Wp} {Wx : L2.St → XK} {ta tb tc : TE} {δa δb δc : DE} {tr : TA} {δr : DA}
/-- x or y by truth -/
def dOrU (a b : DE) : DE := fun ρ τ => (a ρ τ).bind fun x τ1 => (R.of τ1 (tru x)).bind fun k τ2 => if k = true then .ok x τ2 else b ρ τ2
def dAndU (a b : DE) : DE := fun ρ τ => (a ρ τ).bind fun x τ1 => (R.of τ1 (tru x)).bind fun k τ2 => if k = true then b ρ τ2 else .ok x τ2
end
def bodyN (n : Nat) (δ : DS) : Fn := fun as τ => (bodyF n δ as τ).nox
theorem body_okN {W : Wp} {H : Hp} {N : List Str} {k : Nat} {t : L2.TS} {δ : DS} {vs : List V} {Q : VK} {E : XK} (ht : DnS W (fun _ _ _ _ => False) t δ) (h : spP W k (bodyN N.length δ) vs H Q E) : t { nx := fun _ H' => Q .non H', rt := Q } (L2.start N vs) H := by
  obtain ⟨l, tp, G, as, τ, s, a, tt, h⟩ := h
  refine body_ok (E := fun _ _ _ => False) ht ⟨l, tp, G, as, τ, s, a, tt, ?_⟩
  unfold bodyN at h
  revert h
  cases bodyF N.length δ as τ with
  | ok d τ' => exact fun h => h
  | ex x τ' => exact fun h => h.elim
  | no => exact fun h => h
end Np
set_option Elab.async false
set_option linter.all false
set_option maxRecDepth 100000
set_option maxHeartbeats 4000000
namespace Np
open PySem PySem.Spec PyProof.Rows L2
inductive Ix where
  | a (i : Nat) | z (i : Nat) | c (i : Nat)
def pick1 {α : Type} (dv us ws : List α) : Ix → Option α
  | .a i => us[i]?
  | .z i => ws[i]?
  | .c i => dv[i]?
def pickL {α : Type} (dv : List α) (ix : List Ix) (us ws : List α) : List α := ix.filterMap (pick1 dv us ws)
theorem paired_at {α β : Type} {R : α → β → Prop} : ∀ {xs : List α} {ys : List β}, Paired R xs ys → ∀ i : Nat, (xs[i]? = none ∧ ys[i]? = none) ∨ ∃ x y, xs[i]? = some x ∧ ys[i]? = some y ∧ R x y
  | _, _, .nil, i => .inl ⟨by simp, by simp⟩
  | _, _, .cons h t, 0 => .inr ⟨_, _, rfl, rfl, h⟩
  | _, _, .cons h t, i + 1 => by simpa using paired_at t i
theorem pick_rel {α β : Type} {R : α → β → Prop} {dv us ws : List α} {dv' us' ws' : List β} (hd : Paired R dv dv') (hu : Paired R us us') (hw : Paired R ws ws') : ∀ ix : List Ix, Paired R (pickL dv ix us ws) (pickL dv' ix us' ws')
  | [] => .nil
  | i :: ix => by
    have ih := pick_rel hd hu hw ix
    have h : (pick1 dv us ws i = none ∧ pick1 dv' us' ws' i = none) ∨ ∃ x y, pick1 dv us ws i = some x ∧ pick1 dv' us' ws' i = some y ∧ R x y := by
      cases i with
      | a i => exact paired_at hu i
      | z i => exact paired_at hw i
      | c i => exact paired_at hd i
    unfold pickL at ih ⊢
    rcases h with ⟨h1, h2⟩ | ⟨x, y, h1, h2, r⟩
    · rw [List.filterMap_cons_none h1, List.filterMap_cons_none h2]; exact ih
    · rw [List.filterMap_cons_some h1, List.filterMap_cons_some h2]; exact .cons r ih
section
variable {K : PySem.W.Frag} {x qual : Str} {f : Addr} {fd : FuncData} {ps : List Str}
theorem Fun.kbp {st : Stmt} (F : Fun K x qual st f fd) (n : Nat) (ks : List Str) (ix : List Ix)
    (h : ∀ (kV doc pm : Value) (an : Option Addr) (cdv ct : Value) (us ws : List Value), us.length = n → ws.length = ks.length → bindArgs (PySem.W.fnOf x qual (defArgs st) (defBody st) (defScope st) .none kV doc pm an cdv ct) ⟨us, ks.zip ws⟩ = pure (ps.zip (pickL [] ix us ws))) : KB K fd ps n ks (pickL [] ix) :=
  Fun.kb F n ks (fun us ws => pickL [] ix us ws) (fun r1 r2 => pick_rel .nil r1 r2 ix) h
theorem FunD.kbp {params : Arguments} {body : List Stmt} {scope : Scope} {dvs : List V} (F : FunD K x qual params body scope dvs [] f fd) (n : Nat) (ks : List Str) (ix : List Ix) (hd : dvs ≠ [])
    (h : ∀ (T : Addr) (kV doc pm : Value) (an : Option Addr) (cdv ct : Value) (us its ws : List Value), us.length = n → its.length = dvs.length → ws.length = ks.length →
      ∃ k, bindArgs (PySem.W.fnOf x qual params body scope (.ref T) kV doc pm an cdv ct) ⟨us, ks.zip ws⟩ = seqItems? (.ref T) >>= k ∧ k (some its.toArray) = pure (ps.zip (pickL its ix us ws))) : KB K fd ps n ks (pickL dvs ix) := by
  obtain ⟨oc, od, dV, kV, doc, pm, an, cdv, ct, osl, rfl, lk, hcd, hD, hK⟩ := F.ex
  rcases hD with ⟨e, _⟩ | ⟨_, T, o, its, m, rfl, lT, oT, rT⟩
  · exact absurd e hd
  · refine ⟨fun us ws => pickL its ix us ws, ⟨fun s us ws X l1 l2 => ?_, fun r1 r2 => pick_rel rT r1 r2 ix⟩⟩
    obtain ⟨k, e1, e2⟩ := h T kV doc pm an cdv ct us its ws l1 rT.length.symm l2
    refine BindsTo.of_looks fun M => ?_
    rw [e1]
    exact looks_items X lT oT (.of_pure e2)
end
theorem FnG.never {P : Program} {w : World} {K : PySem.W.Frag} {mg : Str → Option Value} {base : Heap} {CX : CXT} {k : Nat} {f : Addr} {fd : FuncData} {ps : List Str} {sp : Sp} (h : ∀ vs H Q E, sp vs H Q E → False) : FnG P w K mg base CX k f fd ps sp :=
  ⟨fun vs H Q E z => (h vs H Q E z).elim, fun A outer s H args us vs Q E _ _ _ _ _ z => (h vs H Q E z).elim⟩
theorem spP_no {W : Wp} {k : Nat} {vs : List V} {H : Hp} {Q : VK} {E : XK} (h : spP W k (fun _ _ => .no) vs H Q E) : False := by
  obtain ⟨_, tp, G, as, τ, _, _, _, h⟩ := h
  exact h
section
variable {W : Wp} {Wx : L2.St → XK} {tp0 tp tp' : Option Addr} {G0 G G' : GH} {H0 H H' : Hp} {σ : L2.St} {ρ : PEnv} {τ τ' : TS'} {D : Ends} {te tk : TE} {δe δk : DE} {φ : PEnv → TS' → R OC}
/-- what is owned, as a tree -/
def ocT : OC → OT
  | .lst xs => .nd .lst (xs.map .fr)
  | .dK kvs => .nd (.dK (kvs.map (·.1))) (kvs.map fun z => .fr z.2)
  | .tr k ts => .nd k ts
def dTrF (φ : PEnv → TS' → R OC) : PEnv → TS' → R OC := fun ρ τ => (φ ρ τ).bind fun c τ1 => match ocT c with
  | .nd k ts => .ok (.tr k ts) τ1
  | .fr _ => .no
theorem OwA.len : ∀ {vs : List V} {ts : List OT} {F : List Addr}, OwA W G H vs ts F → vs.length = ts.length
  | _, _, _, .nil => rfl
  | _, _, _, .cons _ r _ => congrArg Nat.succ (OwA.len r)
/-- x.append(e), e a new thing that x then owns -/
def dAppT (i : Nat) (φ : PEnv → TS' → R OC) : DS := fun ρ τ => match ρ[i]? with
  | some (some (.ow (.tr .lst ts))) => stE (φ ρ τ) ρ fun c τ1 => if ts.length < sizeLine then .ok (.nx (ρ.set i (some (.ow (.tr .lst (ts ++ [ocT c])))))) τ1 else .no
  | _ => .no
/-- x.append(e), e as it stays -/
def dAppL (i : Nat) (e : DE) : DS := fun ρ τ => match ρ[i]? with
  | some (some (.ow (.tr .lst ts))) => stE (e ρ τ) ρ fun d τ1 => if ts.length < sizeLine then .ok (.nx (ρ.set i (some (.ow (.tr .lst (ts ++ [.fr d])))))) τ1 else .no
  | _ => .no
/-- x[k].append(e) -/
def dAppIx (i : Nat) (k e : DE) : DS := fun ρ τ => match ρ[i]? with
  | some (some (.ow (.tr .lst ts))) => stE (k ρ τ) ρ fun n τ1 => match n with
    | .int n => match ixN ts.length n with
      | some j => match ts[j]? with
        | some (.nd .lst us) => stE (e ρ τ1) ρ fun d τ2 => if us.length < sizeLine then .ok (.nx (ρ.set i (some (.ow (.tr .lst (ts.set j (.nd .lst (us ++ [.fr d])))))))) τ2 else .no
        | _ => .no
      | none => .no
    | _ => .no
  | _ => .no
end
end Np
set_option Elab.async false
set_option linter.all false
set_option maxRecDepth 100000
set_option maxHeartbeats 4000000
namespace Np
open PySem PySem.Spec PyProof.Rows L2
/-- a def behind whose call a token is out -/
structure FnT (P : Program) (w : World) (K : PySem.W.Frag) (mg : Str → Option Value) (base : Heap) (CX : CXT) (k : Nat) (f : Addr) (fd : FuncData) (ps : List Str) (sp : Sp) : Prop where
  len : ∀ vs H Q E, sp vs H Q E → vs.length = ps.length
  run : ∀ (A : Around) (outer : List Env) (s : Shared) (H : Hp) (args : Args) (us : List Value) (vs : List V) (Q : VK) (E : XK), A.guards = some [] → Room k A → Env0 P w K mg base A outer s H → BindsTo s fd args (ps.zip us) → Vals vs us → sp vs H Q E →
    codeAny (model P w) A (.call (.ref f) args) (fun r s' => (∀ fl, r = .ok fl → 1 ≤ s'.toks) ∧ CR CX outer P w H s Q E r s') s
theorem FnT.fn {P : Program} {w : World} {K : PySem.W.Frag} {mg : Str → Option Value} {base : Heap} {CX : CXT} {k : Nat} {f : Addr} {fd : FuncData} {ps : List Str} {sp : Sp} (F : FnT P w K mg base CX k f fd ps sp) : FnG P w K mg base CX k f fd ps sp :=
  ⟨F.len, fun A outer s H args us vs Q E a b c d e g => codeAny_mono (F.run A outer s H args us vs Q E a b c d e g) fun _ _ z => z.2⟩
section
variable {W : Wp} {Wx : L2.St → XK} {to : TE} {δ : DE}
def gRepl (y z : Str) : DD → Option DD
  | .str x => if x.length + (x.length + 1) * z.length ≤ 16777216 then some (.str (Txt.replace x y z)) else none
  | _ => none
end
end Np
set_option Elab.async false
set_option linter.all false
set_option maxRecDepth 100000
set_option maxHeartbeats 4000000
namespace Np
open PySem PySem.Spec PyProof.Rows L2
def shIx : Ix → Ix
  | .a i => .a (i + 1)
  | .z i => .z i
  | .c i => .c i
theorem pick_self {α : Type} (dv us ws : List α) (r : α) (ix : List Ix) : pickL dv (.a 0 :: ix.map shIx) (r :: us) ws = r :: pickL dv ix us ws := by
  unfold pickL
  rw [List.filterMap_cons_some (show pick1 dv (r :: us) ws (.a 0) = some r from rfl), List.filterMap_map]
  congr 2
  funext i
  cases i with
  | a i => show (r :: us)[i + 1]? = us[i]?; simp
  | z i => rfl
  | c i => rfl
section
variable {W : Wp} {Wx : L2.St → XK} {tr tk : TA} {δr δk : DA}
/-- which object -/
def mkD (cls : Str) (names : List Str) (ix : List Ix) (as bs : List DD) : DD := .obj cls (names.zip (pickL [] ix as bs))
def dMkN (n m : Nat) (cls : Str) (names : List Str) (ix : List Ix) (a b : DA) : DE := fun ρ τ => (a ρ τ).bind fun as τ1 => (b ρ τ1).bind fun bs τ2 =>
  if as.length = n ∧ bs.length = m ∧ (pickL [] ix as bs).length = names.length then .ok (mkD cls names ix as bs) τ2 else .no
/-- o.field -/
def dFld (cls : Str) (f : Str) (a : DE) : DE := fun ρ τ => (a ρ τ).bind fun x τ1 => match x with
  | .obj C fs => if C = cls then R.of τ1 (fs.lookup f) else .no
  | _ => .no
end
theorem pe_fldK {X : Cx} (K : PySem.W.Frag) {e : Expr} {te : TE} {pos : Pos} {n : Str} (he : PE X e te) (hb : attributeBase e n X.env (eval e X.env) = eval e X.env := by rfl) (hK : X.K = K := by rfl) : PE X (.Attribute e n pos) (tFld K te n) := by
  subst hK
  exact pe_fld he hb
section
variable {W : Wp} {Wx : L2.St → XK} {tr tk : TA} {δr δk : DA}
def enumF (k0 : Int) (ds : List DD) : List DD := ds.mapIdx fun i d => DD.tup [.int (k0 + (i : Nat)), d]
def dIEnumF (a b : DA) : DI := fun ρ τ => (a ρ τ).bind fun x τ1 => (b ρ τ1).bind fun y τ2 => match x, y with
  | [.lst ds], [.int k0] => if -(2 ^ 63) ≤ k0 ∧ k0 < 2 ^ 63 then .ok (enumF k0 ds) τ2 else .no
  | _, _ => .no
def rangeC (lo c : Int) (n : Nat) : List DD := (List.range n).map fun (i : Nat) => DD.int (lo + i * c)
instance (i j c : Int) (n : Nat) : Decidable (RgC i j c n) := by unfold RgC; infer_instance
def dIR3 (a : DA) : DI := fun ρ τ => (a ρ τ).bind fun x τ1 => match x with
  | [.int i, .int j, .int c] => if RgC i j c (Builtin.Range.rangeSize i j c).toNat then .ok (rangeC i c (Builtin.Range.rangeSize i j c).toNat) τ1 else .no
  | _ => .no
end
def c3 (g : DD → DD → DD → Option DD) : List DD → Option DD
  | [a, b, c] => g a b c
  | _ => none
def min3 (i j k : Int) : Int := if k < (if j < i then j else i) then k else if j < i then j else i
def gMin3 : DD → DD → DD → Option DD
  | .int i, .int j, .int k => some (.int (min3 i j k))
  | _, _, _ => none
end Np
set_option Elab.async false
set_option linter.all false
set_option maxRecDepth 100000
set_option maxHeartbeats 4000000
namespace Np
open PySem PySem.Spec PyProof.Rows L2 PySem.HandSPX
/-- the __init__ that a builtin class has of its own -/
structure IniF (B initId : String) : Prop where
  pl : plainId initId = true
  en : entryFor table initId = some Builtin.«BaseException.__init__»
  sp : splitId initId = some (B, "__init__")
  kd : builtinKind initId = some .slot
  rw_ : Manifest.signature? initId = some ⟨.positional, "*", B, .self, [⟨"args", .varPos, false⟩]⟩
  ns : (B != "*") = true
/-- the __new__ by which a class with these bases is made -/
structure NewF (newId : String) (bm : List Value) : Prop where
  ex : ∃ B0 i0 bm0, ExcBaseFacts B0 newId i0 bm0 ∧ bm.contains (.type B0) = true
  na : bm.contains (.type "AttributeError") = false
  nn : bm.contains (.type "NameError") = false
theorem IniF.of {B n i : String} {bm : List Value} (F : ExcBaseFacts B n i bm) : IniF B i := ⟨F.init.plain, F.initEntry, F.initSplit, F.initKind, F.initRow, F.noStar⟩
theorem NewF.of {B n i : String} {bm : List Value} (F : ExcBaseFacts B n i bm) : NewF n bm := ⟨⟨B, i, bm, F, F.hasB⟩, F.noAttr, F.noName⟩
end Np
set_option Elab.async false
set_option linter.all false
set_option maxRecDepth 100000
set_option maxHeartbeats 4000000
namespace Np
open PySem PySem.Spec PyProof.Rows L2
end Np
set_option Elab.async false
set_option linter.all false
set_option maxRecDepth 100000
set_option maxHeartbeats 4000000
namespace Np
open PySem PySem.Spec PyProof.Rows L2
end Np
set_option Elab.async false
set_option linter.all false
set_option maxRecDepth 100000
set_option maxHeartbeats 4000000
namespace Np
open PySem PySem.Spec PyProof.Rows L2
def sortI (ns : List Int) : List Int := ns.mergeSort fun a b => decide (a ≤ b)
theorem sortI_sorted (ns : List Int) : (sortI ns).Pairwise (· ≤ ·) := by
  have h := List.pairwise_mergeSort (le := fun a b : Int => decide (a ≤ b)) (fun a b c h1 h2 => by simp at *; omega) (fun a b => by simp; omega) ns
  exact h.imp fun h => by simpa using h
theorem sortI_perm (ns : List Int) : (sortI ns).Perm ns := List.mergeSort_perm _ _
theorem sorted_is {ns ms : List Int} (h1 : ms.Perm ns) (h2 : ms.Pairwise (· ≤ ·)) : ms = sortI ns :=
  List.Perm.eq_of_pairwise (fun a b _ _ x y => by omega) h2 (sortI_sorted ns) (h1.trans (sortI_perm ns).symm)
def gSortI : DD → Option DD
  | .lst ds => (ints? ds).map fun ns => .lst ((sortI ns).map DD.int)
  | _ => none
theorem RpA.intsD {K : PySem.W.Frag} {cm : CM} {H : GH} : ∀ ns : List Int, RpA K cm H (ns.map V.int) (ns.map DD.int)
  | [] => .nil
  | n :: ns => .cons (.int n) (RpA.intsD ns)
end Np
set_option Elab.async false
set_option linter.all false
set_option maxRecDepth 100000
set_option maxHeartbeats 4000000
namespace Np
open PySem PySem.Spec PyProof.Rows L2
section
variable {W : Wp} {Wx : L2.St → XK} {ta : TA} {δa : DA}
def dLenO (cls : Str) (F : Fn) (a : DA) : DE := fun ρ τ => (a ρ τ).bind fun xs τ1 => match xs with
  | [.obj C fs] => if C = cls then (F [.fr (.obj C fs)] τ1).nox.bind fun d τ2 => match d with
      | .int n => if 0 ≤ n ∧ n < 2 ^ 63 then .ok (.int n) τ2 else .no
      | _ => .no
    else .no
  | _ => .no
end
end Np
set_option Elab.async false
set_option linter.all false
set_option maxRecDepth 100000
set_option maxHeartbeats 4000000
namespace Np
open PySem PySem.Spec PyProof.Rows L2
end Np
set_option Elab.async false
set_option linter.all false
set_option maxRecDepth 100000
set_option maxHeartbeats 4000000
namespace Np
open PySem PySem.Spec PyProof.Rows L2
def tMakeG (C : Addr) (n m : Nat) (sp : Sp) (gV : List V → List V → List V) (E : L2.St → XK) (t tk : TA) : TE := fun σ H Q => t σ H fun vs H1 => tk σ H1 fun zs H2 => vs.length = n ∧ zs.length = m ∧
  ∀ x dx, H2 x = none → H2 dx = none → dx ≠ x → sp (gV (.ref x :: vs) zs) (upd (upd H2 dx (.own x)) x (.ins C dx [])) (fun v H3 => v = .non ∧ Q (.ref x) H3) (E σ)
/-- what a class brings that is made -/
def MkC (P : Program) (w : World) (K : PySem.W.Frag) (mg : Str → Option Value) (base : Heap) (CX : CXT) (k : Nat) (C : Addr) (ps : List Str) (sp : Sp) (n : Nat) (ks : List Str) (gV : List V → List V → List V) : Prop :=
  ∃ (f : Addr) (fd : FuncData), Mk K C f ∧ FnG P w K mg base CX k f fd ps sp ∧ KB K fd ps (n + 1) ks gV
section
variable {X : Cx} {CX : CXT} {k n : Nat} {f C : Addr} {fd : FuncData} {ps ks : List Str} {sp : Sp} {E : L2.St → XK} {x : Str} {p pos : Pos} {e : Expr} {es : List Expr} {kws : List Keyword} {t tk : TA} {g : List Value → List Value → List Value} {gV : List V → List V → List V}
theorem run_mkG {pins : List (Addr × Obj)} {σ : L2.St} {H : Hp} {s : Shared} {Q : VK} {us ws : List Value} {vs zs : List V} {E : XK} (h : MkC X.prog X.w X.K X.mg X.base CX k C ps sp n ks gV) (hgd : X.A.guards = some []) (hr : Room (k + 1) X.A)
    (hx : PassesAt CX X σ E) (I : L2.Inv X pins σ H s) (r : Vals vs us) (rz : Vals zs ws) (l1 : vs.length = n) (l2 : zs.length = ks.length)
    (h' : ∀ x dx, H x = none → H dx = none → dx ≠ x → sp (gV (.ref x :: vs) zs) (upd (upd H dx (.own x)) x (.ins C dx [])) (fun v H2 => v = .non ∧ Q (.ref x) H2) E) :
    wpAny (model X.prog X.w) X.A (call (.ref C) us (ks.zip ws)) (EP X pins σ Q) X.xe s := by
  obtain ⟨f, fd, M, F, g, hb⟩ := h
  have hq := h' (s.heap.objs.size + 1) s.heap.objs.size (I.hok.fresh (Nat.le_succ _)) (I.hok.fresh (Nat.le_refl _)) (Nat.ne_of_lt (Nat.lt_succ_self _))
  have I2 := Inv.made (C := C) I
  have r1 : Vals (V.ref (s.heap.objs.size + 1) :: vs) (Value.ref (s.heap.objs.size + 1) :: us) := .cons rfl r
  have r2 := hb.rel r1 rz
  have e1 : (Value.ref (s.heap.objs.size + 1) :: us).length = n + 1 := r1.length.symm.trans (congrArg Nat.succ l1)
  have e2 : ws.length = ks.length := rz.length.symm.trans l2
  refine wpAny_call (make_map (f := f) I.kIn M.makes M.init (beq_iff_eq.mp M.fn) (codeAny_mono (F.run _ X.stack _ _ ⟨Value.ref (s.heap.objs.size + 1) :: us, ks.zip ws⟩ (g (Value.ref (s.heap.objs.size + 1) :: us) ws) _ _ E hgd (hr.make C us (ks.zip ws))
    (I2.env0.make C us (ks.zip ws)) (hb.to _ (Value.ref (s.heap.objs.size + 1) :: us) ws I2.kIn e1 e2) r2 hq) fun r s' hq' => ?_))
  cases r with
  | error e => exact hx pins _ _ e s' I2 hq'
  | ok fl =>
    cases fl with
    | ret u =>
      obtain ⟨v, H', I3, rv, ev, q3⟩ := I2.after hq'
      subst ev
      exact ⟨rv, ⟨V.ref (s.heap.objs.size + 1), H', I3, rfl, q3⟩⟩
    | next => exact False.elim hq'
    | brk => exact False.elim hq'
    | cont => exact False.elim hq'
theorem MkC.kp (h : MkC X.prog X.w X.K X.mg X.base CX k C ps sp n ks gV) : PySem.W.keepIn X.K (.ref C) = true := by
  obtain ⟨f, fd, M, _⟩ := h
  exact M.kp
theorem pe_mkG0 (h : MkC X.prog X.w X.K X.mg X.base CX k C ps sp 0 ks gV) (hgd : X.A.guards = some []) (hr : Room (k + 1) X.A) (hm : X.mg x = some (.ref C)) (hx : ∀ σ, PassesAt CX X σ (E σ))
    (hkw : PK X kws tk) (hg : Gl X x := by rfl) (hall : (backToKw pos (keywordEach kws X.env)).all (·.1.isSome) = true := by rfl) (hks : (backToKw pos (keywordEach kws X.env)).filterMap (·.1) = ks := by rfl)
    (hdb : (x == ("__debug__" : Str)) = false := by decide)
    (hpl : ((backTo pos (starEach [] X.env)).any (·.1) || (backToKw pos (keywordEach kws X.env)).any (·.1.isNone)) = false := by rfl) :
    PE X (.Call (.Name x p) [] kws pos) (tMakeG C 0 ks.length sp gV E tNil tk) := by
  refine ⟨fun pins s σ H Q I hh => ?_⟩
  refine wpAny_Call_Name_kw (ld_glob I hg hm ?_ hdb)
  refine PySem.W.callWith_KW0 (h₀ := X.base) I.ok.mod.kin h.kp hall ?_ hpl
  refine L2.thn (hkw.run pos pins s σ H _ I hh) fun ws s2 hh2 => ?_
  obtain ⟨zs, H2, I2, rz, l1, l2, q2⟩ := hh2
  refine ⟨I2.kIn, ?_⟩
  rw [hks]
  exact run_mkG (us := []) (vs := []) h hgd hr (hx σ) I2 .nil rz l1 l2 q2
theorem pe_mkP (h : MkC X.prog X.w X.K X.mg X.base CX k C ps sp n [] gV) (hgd : X.A.guards = some []) (hr : Room (k + 1) X.A) (hm : X.mg x = some (.ref C)) (hx : ∀ σ, PassesAt CX X σ (E σ))
    (ha : PA X (e :: es) t) (hg : Gl X x := by rfl) (hdb : (x == ("__debug__" : Str)) = false := by decide) (he : starEach (e :: es) X.env = (false, eval e X.env) :: starEach es X.env := by rfl) (hpl : (backTo pos (starEach es X.env)).any (·.1) = false := by rfl) :
    PE X (.Call (.Name x p) (e :: es) [] pos) (tMakeG C n 0 sp gV E t tNil) := by
  refine ⟨fun pins s σ H Q I hh => ?_⟩
  refine wpAny_Call_Name_kw (ld_glob I hg hm ?_ hdb)
  refine PySem.W.callWith_K (h₀ := X.base) I.ok.mod.kin h.kp (L2.thn (ha.run pos pins s σ H _ I hh) fun us s1 hh1 => ?_) he hpl
  obtain ⟨vs, H1, I1, r, l1, l2, q⟩ := hh1
  exact ⟨I1.kIn, run_mkG (ks := []) (ws := []) (zs := []) h hgd hr (hx σ) I1 r .nil l1 rfl q⟩
end
abbrev FnI := Addr → List PV → TS' → R DD
open Classical in
noncomputable def allX (F : FnI) (as : List PV) (τ : TS') : R DD := if h : ∃ r, ∀ x, F x as τ = r then h.choose else .no
def IPost (W : Wp) (tp : Option Addr) (G : GH) (H : Hp) (x : Addr) (Q : VK) (E : XK) : R DD → Prop
  | .ok d τ' => ∀ G' H', Ext tp G H G' H' → SB W G' H' → TapeO W G' H' tp τ' → Rp W.K W.cm G' (.ref x) d → Q .non H'
  | .ex e τ' => ∀ d G' H', Ext tp G H G' H' → SB W G' H' → TapeO W G' H' tp τ' → ExR W G' H' e d → E (.ref (W.cm e.cls)) d H'
  | .no => False
def spI (W : Wp) (k : Nat) (cls : Str) (F : FnI) : Sp := fun vs H1 Q E => vs.length = k ∧ ∃ x dx H rest tp G as τ, vs = .ref x :: rest ∧ H x = none ∧ H dx = none ∧ dx ≠ x ∧ H1 = upd (upd H dx (.own x)) x (.ins (W.cm cls) dx []) ∧
  SB W G H ∧ Paired (ArgR W tp G) rest as ∧ TapeO W G H tp τ ∧ IPost W tp G H x Q E (F x as τ)
noncomputable def dMkP (k n m : Nat) (F : FnI) (g : List PV → List PV → List PV) (a b : DPs) : DE := fun ρ τ => (a ρ τ).bind fun as τ1 => (b ρ τ1).bind fun bs τ2 => if as.length = n ∧ bs.length = m ∧ (g as bs).length + 1 = k then allX F (g as bs) τ2 else .no
noncomputable def dMkN' (k n m : Nat) (F : FnI) (g : List PV → List PV → List PV) (a b : DPs) : DE := fun ρ τ => (a ρ τ).bind fun as τ1 => (b ρ τ1).bind fun bs τ2 => if as.length = n ∧ bs.length = m ∧ (g as bs).length + 1 = k then (allX F (g as bs) τ2).nox else .no
def putD (f : Str) (v : DD) : List (Str × DD) → List (Str × DD)
  | [] => [(f, v)]
  | (g, x) :: r => if g = f then (g, v) :: r else (g, x) :: putD f v r
theorem RpF.put {K : PySem.W.Frag} {cm : CM} {G : GH} {f : Str} {v : V} {d : DD} (h : Rp K cm G v d) : ∀ {vs : List (Str × V)} {ds : List (Str × DD)}, RpF K cm G vs ds → RpF K cm G (putF f v vs) (putD f d ds)
  | _, _, .nil => .cons h .nil
  | _, _, .cons (k := k) a r => by
    unfold putF putD
    by_cases e : k = f
    · rw [if_pos e, if_pos e]; exact .cons h r
    · rw [if_neg e, if_neg e]; exact .cons a (RpF.put h r)
theorem RpF.len {K : PySem.W.Frag} {cm : CM} {G : GH} : ∀ {vs : List (Str × V)} {ds : List (Str × DD)}, RpF K cm G vs ds → vs.length = ds.length
  | _, _, .nil => rfl
  | _, _, .cons _ r => congrArg Nat.succ (RpF.len r)
abbrev DI' := PEnv → TS' → List (Str × DD) → R DD
structure EnvI (W : Wp) (cls : Str) (x dx : Addr) (tp0 : Option Addr) (G0 : GH) (H0 : Hp) (tp : Option Addr) (G : GH) (H : Hp) (σ : L2.St) (ρ : PEnv) (τ : TS') (vs : List (Str × V)) (fs : List (Str × DD)) : Prop where
  e : EnvS W tp0 G0 H0 tp G H σ ρ τ
  h0 : H0 x = none
  g : G x = none
  nt : NoM tp G x
  fr : FreeP W G H σ ρ x
  me : ρ[0]? = some (some (.fr (.raw x)))
  at' : H x = some (.ins (W.cm cls) dx vs)
  r : RpF W.K W.cm G vs fs
def PsI (W : Wp) (E : XK) (tp0 : Option Addr) (G0 : GH) (H0 : Hp) (x : Addr) (D : Ends) : R DD → Prop
  | .ok d τ => ∀ tp' G' H' σ', Ext tp0 G0 H0 G' H' → SB W G' H' → TapeO W G' H' tp' τ → (tp' = tp0 ∨ tp0 = none) → Rp W.K W.cm G' (.ref x) d → D.nx σ' H'
  | .ex e τ => ∀ d tp' G' H', Ext tp0 G0 H0 G' H' → SB W G' H' → TapeO W G' H' tp' τ → (tp' = tp0 ∨ tp0 = none) → ExR W G' H' e d → E (.ref (W.cm e.cls)) d H'
  | .no => False
def dIEnd (cls : Str) : DI' := fun _ τ fs => .ok (.obj cls fs) τ
def dISet (f : Str) (e : DE) (r : DI') : DI' := fun ρ τ fs => (e ρ τ).bind fun d τ1 => if fs.length < 1000 then r ρ τ1 (putD f d fs) else .no
section
variable {W : Wp} {E : XK} {cls f : Str} {x dx : Addr} {tp0 tp : Option Addr} {G0 G : GH} {H0 H : Hp} {σ : L2.St} {ρ : PEnv} {τ : TS'} {vs : List (Str × V)} {fs : List (Str × DD)} {te : TE} {δe : DE} {t : L2.TS} {δ : DI'}
theorem EnvI.done (I : EnvI W cls x dx tp0 G0 H0 tp G H σ ρ τ vs fs) {D : Ends} (P : PsI W E tp0 G0 H0 x D (dIEnd cls ρ τ fs)) : D.nx σ H := by
  have sg : GS G (G.upd x (.ins (W.cm cls) dx vs)) := GS.new I.g
  exact P tp (G.upd x (.ins (W.cm cls) dx vs)) H σ (I.e.e.frzN I.h0 I.g) (I.e.v.g.frz I.at' rfl) (I.e.v.t.frz1 I.g I.nt) (I.e.t.imp id fun z => z.1) (.obj upd_same (I.r.mono sg))
theorem EnvI.set {τ1 : TS'} {G1 : GH} {H1 : Hp} {v : V} {d : DD} (I : EnvI W cls x dx tp0 G0 H0 tp G H σ ρ τ vs fs) (e1 : Ext tp G H G1 H1) (E1 : EnvV W tp G1 H1 σ ρ τ1) (r1 : Rp W.K W.cm G1 v d) :
    H1 x = some (.ins (W.cm cls) dx vs) ∧ σ[0]? = some (some (.ref x)) ∧ EnvI W cls x dx tp0 G0 H0 tp G1 (upd H1 x (.ins (W.cm cls) dx (putF f v vs))) σ ρ τ1 (putF f v vs) (putD f d fs) := by
  have hx1 := e1.h x _ I.nt rfl I.at'
  have nt1 := e1.nom I.nt (by rw [I.at']; simp)
  have gx1 : G1 x = none := e1.f x I.nt (by rw [I.at']; simp) I.g
  have s0 : σ[0]? = some (some (.ref x)) := by
    obtain ⟨u, h1, h2⟩ := Paired.getL E1.s I.me
    cases u with
    | none => exact h2.elim
    | some u => cases (show Rp W.K W.cm G1 u (.raw x) from h2); exact h1
  have fr1 : FreeP W G1 H1 σ ρ x := fun j c a F h1 h2 w => I.fr j c a F h1 h2 (I.e.v.backE e1 h1 h2 w)
  have E1s := I.e.step e1 E1
  have E2 := E1.mutH (o := .ins (W.cm cls) dx (putF f v vs)) gx1 nt1 ⟨_, hx1, rfl⟩ fr1
  have bk : ∀ {j : Nat} {c : OC} {a : Addr} {F : List Addr}, ρ[j]? = some (some (PV.ow c)) → σ[j]? = some (some (V.ref a)) → OwR W G1 (upd H1 x (.ins (W.cm cls) dx (putF f v vs))) a c F → OwR W G1 H1 a c F := fun {j c a F} h1 h2 w => by
    obtain ⟨F0, w0, _⟩ := E1.own h1 h2
    have w1 : OwR W G1 (upd H1 x (.ins (W.cm cls) dx (putF f v vs))) a c F0 := w0.keep (GS.refl _) fun q hq u hu => by
      rw [upd_ne (fun z => fr1 _ _ _ _ h1 h2 w0 (by rw [← z]; exact hq))]; exact hu
    rw [w.uniq w1]
    exact w0
  refine ⟨hx1, s0, ⟨E2, E1s.e.mut I.h0, fun j c a F h1 h2 w => E1s.o j c a F h1 h2 (bk h1 h2 w), I.e.t⟩, I.h0, gx1, nt1, fun j c a F h1 h2 w => fr1 j c a F h1 h2 (bk h1 h2 w), I.me, upd_same, RpF.put r1 (I.r.mono e1.g)⟩
end
def fixR (τ : TS') : R DD → R DD
  | .ok d τ' => .ok d (fixT τ τ')
  | .ex x τ' => .ex x (fixT τ τ')
  | .no => .no
/-- what stands ahead of the first field, then the fields -/
def bodyI2 (tail : DI') (x : Addr) (τ : TS') (ρ : PEnv) (τ' : TS') : Option (Option PV) → R DD
  | some (some (.fr (.raw y))) => if y = x then fixR τ (tail ρ τ' []) else .no
  | _ => .no
theorem TapeO.newH {W : Wp} {tp : Option Addr} {G : GH} {H : Hp} {τ : TS'} {p : Addr} {o : HO} (t : TapeO W G H tp τ) (n : H p = none) : TapeO W G (upd H p o) tp τ := t.ext (Ext.newH n)
end Np
set_option Elab.async false
set_option linter.all false
set_option maxRecDepth 100000
set_option maxHeartbeats 4000000
namespace Np
open PySem PySem.Spec PyProof.Rows L2
def tMethE (C : Addr) (m : Str) (sp : Sp) (E : L2.St → XK) (ta : TE) (t : TA) : TE := fun σ H Q => ta σ H fun x H1 => ∃ a dx fs, x = .ref a ∧ H1 a = some (.ins C dx fs) ∧ fs.lookup m = none ∧ t σ H1 fun vs H2 => sp (x :: vs) H2 Q (E σ)
/-- what a class brings with a method -/
def MeC (P : Program) (w : World) (K : PySem.W.Frag) (mg : Str → Option Value) (base : Heap) (CX : CXT) (k : Nat) (C : Addr) (m : Str) (ps : List Str) (sp : Sp) : Prop :=
  ∃ (f : Addr) (fd : FuncData), Meth K C m f ∧ FnG P w K mg base CX k f fd ps sp ∧ Binds K fd ps []
section
variable {X : Cx} {CX : CXT} {k : Nat} {C : Addr} {ps : List Str} {sp : Sp} {E : L2.St → XK} {m : Str} {pos apos : Pos} {e o : Expr} {es : List Expr} {ta : TE} {t : TA}
theorem pe_mG {pl : Sem Bool} (h : MeC X.prog X.w X.K X.mg X.base CX k C m ps sp) (c : Cls X.K C) (hgd : X.A.guards = some []) (hr : Room k X.A) (hx : ∀ σ, PassesAt CX X σ (E σ)) (he : PE X o ta) (ha : PA X (e :: es) t)
    (hst : starEach (e :: es) X.env = (false, eval e X.env) :: starEach es X.env := by rfl) (hpl : (backTo pos (starEach es X.env)).any (·.1) = false := by rfl)
    (ht : eval (.Call (.Attribute o m apos) (e :: es) [] pos) X.env = (do
      let ov ← eval o X.env
      standAt apos.atName
      let (f, first) ← holding [ov] (getMethod ov m pl)
      callWith pos f first (backTo pos (starEach (e :: es) X.env)) (backToKw pos (keywordEach [] X.env))) := by rfl) :
    PE X (.Call (.Attribute o m apos) (e :: es) [] pos) (tMethE C m sp E ta t) := by
  obtain ⟨f, fd, hm, F, hb⟩ := h
  refine ⟨fun pins s σ H Q I h => ?_⟩
  refine PySem.W.methodCall_KW (pl := pl) (L2.thn (he.run pins s σ H _ I h) fun u s1 ⟨x, H1, I1, rx, a, dx, fs, ex, ea, l, q⟩ => ?_) ht
  subst ex
  obtain rfl : u = Value.ref a := rx
  refine getmeth_ok I1 ea c hm l ?_
  refine PySem.W.callWith_K (first := [.ref a]) (h₀ := X.base) I.ok.mod.kin hm.kp (L2.thn (ha.run pos pins s1 σ H1 _ I1 q) fun us s2 ⟨vs, H2, I2, r, q2⟩ => ⟨I2.kIn, ?_⟩) hst hpl
  exact run_gw (us := .ref a :: us) (vs := .ref a :: vs) (dvs := []) (ds := []) F hgd hr hb .nil (hx σ) I2 (.cons rfl r) (by rw [List.append_nil]; exact q2)
theorem pe_mG0 {pl : Sem Bool} (h : MeC X.prog X.w X.K X.mg X.base CX k C m ps sp) (c : Cls X.K C) (hgd : X.A.guards = some []) (hr : Room k X.A) (hx : ∀ σ, PassesAt CX X σ (E σ)) (he : PE X o ta)
    (ht : eval (.Call (.Attribute o m apos) [] [] pos) X.env = (do
      let ov ← eval o X.env
      standAt apos.atName
      let (f, first) ← holding [ov] (getMethod ov m pl)
      callWith pos f first (backTo pos (starEach [] X.env)) (backToKw pos (keywordEach [] X.env))) := by rfl) :
    PE X (.Call (.Attribute o m apos) [] [] pos) (tMethE C m sp E ta tNil) := by
  obtain ⟨f, fd, hm, F, hb⟩ := h
  refine ⟨fun pins s σ H Q I h => ?_⟩
  refine PySem.W.methodCall_KW (pl := pl) (L2.thn (he.run pins s σ H _ I h) fun u s1 ⟨x, H1, I1, rx, a, dx, fs, ex, ea, l, q⟩ => ?_) ht
  subst ex
  obtain rfl : u = Value.ref a := rx
  refine getmeth_ok I1 ea c hm l ?_
  exact PySem.W.callWith_K0 (first := [.ref a]) I1.kIn hm.kp (run_gw (us := [.ref a]) (vs := [.ref a]) (dvs := []) (ds := []) F hgd hr hb .nil (hx σ) I1 (.cons rfl .nil) q)
end
def dMethN (k : Nat) (cls m : Str) (F : Fn) (a : DE) (r : DPs) : DE := fun ρ τ => (a ρ τ).bind fun x τ1 => match x with
  | .obj C fs => if C = cls ∧ fs.lookup m = none then (r ρ τ1).bind fun as τ2 => if as.length + 1 = k then (F (.fr (.obj C fs) :: as) τ2).nox else .no
    else .no
  | _ => .no
section
variable {W : Wp} {Wx : L2.St → XK} {ta : TE} {tr : TA} {δa : DE} {δr : DPs}
theorem RpF.lookN {K : PySem.W.Frag} {cm : CM} {G : GH} {f : Str} : ∀ {vs : List (Str × V)} {ds : List (Str × DD)}, RpF K cm G vs ds → ds.lookup f = none → vs.lookup f = none
  | _, _, .nil, _ => rfl
  | _, _, .cons (k := k) a r, h => by
    rw [List.lookup_cons] at h ⊢
    by_cases e : (f == k) = true
    · rw [e] at h; cases h
    · have e' : (f == k) = false := by simpa using e
      rw [e'] at h ⊢
      exact RpF.lookN r h
end
section
variable {W : Wp} {Wx : L2.St → XK} {ta : TA} {δa : DA}
def dStrO (cls : Str) (F : Fn) (a : DA) : DE := fun ρ τ => (a ρ τ).bind fun xs τ1 => match xs with
  | [.obj C fs] => if C = cls then (F [.fr (.obj C fs)] τ1).nox.bind fun d τ2 => match d with
      | .str z => .ok (.str z) τ2
      | _ => .no
    else .no
  | _ => .no
end
end Np
set_option Elab.async false
set_option linter.all false
set_option maxRecDepth 100000
set_option maxHeartbeats 4000000
namespace Np
open PySem PySem.Spec PyProof.Rows L2
/-- y may stand beside an object of the class -/
def sideY (cls : Str) : DD → Bool
  | .obj C _ => decide (C = cls)
  | .exc _ _ => false
  | .raw _ => false
  | .ptr _ => false
  | .tux _ => false
  | _ => true
def dEqO (neg : Bool) (cls : Str) (F : Fn) (a b : DE) : DE := fun ρ τ => (a ρ τ).bind fun x τ1 => (b ρ τ1).bind fun y τ2 => match x with
  | .obj C fs => if C = cls ∧ sideY cls y = true then (F [.fr (.obj C fs), .fr y] τ2).nox.bind fun d τ3 => match d with
      | .bl r => .ok (.bl (xor neg r)) τ3
      | _ => .no
    else .no
  | _ => .no
section
variable {W : Wp} {Wx : L2.St → XK} {ta tb : TE} {δa δb : DE}
/-- isinstance(x, cls) of things of all kinds -/
def gIsO (cls : Str) : DD → Option DD
  | .obj C _ => if C = cls then some (.bl true) else none
  | .exc _ _ => none
  | .raw _ => none
  | .ptr _ => none
  | .tux _ => none
  | _ => some (.bl false)
end
end Np
set_option Elab.async false
set_option linter.all false
set_option maxRecDepth 100000
set_option maxHeartbeats 4000000
namespace Np
open PySem PySem.Spec PyProof.Rows L2
end Np
set_option Elab.async false
set_option linter.all false
set_option maxRecDepth 100000
set_option maxHeartbeats 4000000
namespace Np
open PySem PySem.Spec PyProof.Rows L2
def canSame (d x : DD) : Prop := ∃ (K : PySem.W.Frag) (cm : CM) (G : GH) (v : V), Rp K cm G v d ∧ Rp K cm G v x
def toB (r : R DD) : R Bool := r.nox.bind fun d τ => match d with
  | .bl b => .ok b τ
  | _ => .no
/-- a thing that declines == with an object -/
def thing : DD → Bool
  | .non => true
  | .int _ => true
  | .str _ => true
  | .lst _ => true
  | .tup _ => true
  | _ => false
open Classical in
/-- item == x inside a list -/
noncomputable def eq1D (cls : Str) (F : Fn) (d x : DD) (τ : TS') : R Bool := match d with
  | .obj C fs => if C = cls then (toB (F [.fr (.obj C fs), .fr x] τ)).bind fun b τ' => if (canSame (.obj C fs) x → b = true ∧ τ' = τ) then .ok b τ' else .no
    else .no
  | d => if thing d = true then toB (F [.fr x, .fr d] τ) else .no
noncomputable def inD (cls : Str) (F : Fn) (x : DD) : List DD → TS' → R Bool
  | [], τ => .ok false τ
  | d :: ds, τ => (eq1D cls F d x τ).bind fun b τ' => if b = true then .ok true τ' else inD cls F x ds τ'
noncomputable def dInO (neg : Bool) (cls : Str) (F : Fn) (a b : DE) : DE := fun ρ τ => (a ρ τ).bind fun x τ1 => (b ρ τ1).bind fun y τ2 => match x, y with
  | .obj C fs, .lst ds => if C = cls then (inD cls F (.obj C fs) ds τ2).bind fun r τ3 => .ok (.bl (xor neg r)) τ3 else .no
  | _, _ => .no
def dEqR (cls : Str) (F : Fn) (a b : DE) : DE := fun ρ τ => (a ρ τ).bind fun y τ1 => (b ρ τ1).bind fun x τ2 => match x with
  | .obj C fs => if C = cls ∧ thing y = true then (toB (F [.fr (.obj C fs), .fr y] τ2)).bind fun r τ3 => .ok (.bl r) τ3 else .no
  | _ => .no
end Np
set_option Elab.async false
set_option linter.all false
set_option maxRecDepth 100000
set_option maxHeartbeats 4000000
namespace Np
open PySem PySem.Spec PyProof.Rows L2
section
variable {W : Wp} {Wx : L2.St → XK} {ta : TA} {δa : DA}
def dBoolO (cls : Str) (F : Fn) (a : DA) : DE := fun ρ τ => (a ρ τ).bind fun xs τ1 => match xs with
  | [.obj C fs] => if C = cls then (F [.fr (.obj C fs)] τ1).nox.bind fun d τ2 => match d with
      | .int n => if 0 ≤ n ∧ n < 2 ^ 63 then .ok (.bl (n != 0)) τ2 else .no
      | _ => .no
    else .no
  | _ => .no
end
end Np
set_option Elab.async false
set_option linter.all false
set_option maxRecDepth 100000
set_option maxHeartbeats 4000000
namespace Np
open PySem PySem.Spec PyProof.Rows L2
def dMethON (k : Nat) (cls m : Str) (F : FnO) (a : DE) (r : DPs) : PEnv → TS' → R OC := fun ρ τ => (a ρ τ).bind fun x τ1 => match x with
  | .obj C fs => if C = cls ∧ fs.lookup m = none then (r ρ τ1).bind fun as τ2 => if as.length + 1 = k then (F (.fr (.obj C fs) :: as) τ2).nox else .no
    else .no
  | _ => .no
section
variable {W : Wp} {Wx : L2.St → XK} {ta te : TE} {tr : TA} {δa δe : DE} {δr : DPs} {φ : PEnv → TS' → R OC}
/-- f(..).append(c): a new list, changed and let go -/
def dDropApp (φ : PEnv → TS' → R OC) : DS := fun ρ τ => stE (φ ρ τ) ρ fun c τ1 => match c with
  | .lst xs => if xs.length < sizeLine then .ok (.nx ρ) τ1 else .no
  | _ => .no
end
theorem ps_fldK {X : Cx} (K : PySem.W.Frag) {o value : Expr} {f : Str} {pos pos' : Pos} {ta tv : TE} (ha : PE X o ta) (hv : PE X value tv) (hs : swapsWith value (some (.Attribute o f pos')) pos.line X.env = pure false) (hK : X.K = K := by rfl) : PS X (.Assign [.Attribute o f pos'] value pos) (sFld K ta tv f) := by subst hK; exact ps_fld ha hv hs
end Np
set_option Elab.async false
set_option linter.all false
set_option maxRecDepth 100000
set_option maxHeartbeats 4000000
namespace Np
open PySem PySem.Spec PyProof.Rows L2
def gLenRg1 : DD → Option DD
  | .int n => if (n.toNat : Int) < 2 ^ 63 then some (.int n.toNat) else none
  | _ => none
section
variable {W : Wp} {Wx : L2.St → XK} {ta : TE} {δa : DE}
def gIsB : DD → DD → Option DD
  | .bl a, .bl b => some (.bl (decide (a = b)))
  | _, _ => none
def gSlT : DD → Option Int → Option Int → Option DD
  | .tup ds, lo, hi => some (.tup (cutL ds lo hi))
  | _, _, _ => none
end
end Np
set_option Elab.async false
set_option linter.all false
set_option maxRecDepth 100000
set_option maxHeartbeats 4000000
namespace Np
open PySem PySem.Spec PyProof.Rows L2
section
variable {W : Wp} {Wx : L2.St → XK} {tr tk : TA} {δr δk : DA}
def dIZipS (a b : DA) : DI := fun ρ τ => (a ρ τ).bind fun x τ1 => (b ρ τ1).bind fun y τ2 => match x, y with
  | [.lst ds, .lst es], [.bl true] => if ds.length = es.length then .ok (zipD ds es) τ2 else .no
  | _, _ => .no
end
end Np
set_option Elab.async false
set_option linter.all false
set_option maxRecDepth 100000
set_option maxHeartbeats 4000000
namespace Np
open PySem PySem.Spec PyProof.Rows L2
section
variable {W : Wp} {Wx : L2.St → XK} {te : TE} {φ : PEnv → TS' → R OC} {δa : DE}
def dDropClr (φ : PEnv → TS' → R OC) : DS := fun ρ τ => stE (φ ρ τ) ρ fun c τ1 => match c with
  | .lst _ => .ok (.nx ρ) τ1
  | _ => .no
end
section
variable {W : Wp} {Wx : L2.St → XK} {ta : TE} {δa : DE}
def dTruO (cls : Str) (F : Fn) (a : DE) : DT := fun ρ τ => (a ρ τ).bind fun x τ1 => match x with
  | .obj C fs => if C = cls then (F [.fr (.obj C fs)] τ1).nox.bind fun d τ2 => match d with
      | .int n => if 0 ≤ n ∧ n < 2 ^ 63 then .ok (n != 0) τ2 else .no
      | _ => .no
    else .no
  | _ => .no
end
end Np
set_option Elab.async false
set_option linter.all false
set_option maxRecDepth 100000
set_option maxHeartbeats 4000000
namespace Np
open PySem PySem.Spec PyProof.Rows L2
open Classical in
noncomputable def mns (G : GH) (B : Addr → Prop) : GH := ⟨fun p => if B p then none else G p, G.ads⟩
theorem mns_out {G : GH} {B : Addr → Prop} {p : Addr} (h : ¬ B p) : (mns G B).hp p = G.hp p := if_neg h
theorem mns_in {G : GH} {B : Addr → Prop} {p : Addr} (h : B p) : (mns G B).hp p = none := if_pos h
theorem mns_same {G G' : GH} {B : Addr → Prop} (s : GS G G') : GS (mns G B) (mns G' B) := ⟨fun p o h => by
  by_cases z : B p
  · rw [mns_in z] at h; cases h
  · rw [mns_out z] at h ⊢; exact s p o h, s.a⟩
abbrev OldB (H0 : Hp) (B : Addr → Prop) : Prop := ∀ p, B p → H0 p ≠ none
def AvF (W : Wp) (H0 : Hp) (G : GH) (vs : List (Str × V)) (fs : List (Str × DD)) : Prop := ∀ B, OldB H0 B → RpF W.K W.cm (mns G B) vs fs
def PsIS (W : Wp) (E : XK) (tp0 : Option Addr) (G0 : GH) (H0 : Hp) (x : Addr) (D : Ends) : R DD → Prop
  | .ok d τ => ∀ tp' G' H' σ', Ext tp0 G0 H0 G' H' → SB W G' H' → TapeO W G' H' tp' τ → (tp' = tp0 ∨ tp0 = none) → Rp W.K W.cm G' (.ref x) d → (∀ B, OldB H0 B → Rp W.K W.cm (mns G' B) (.ref x) d) → D.nx σ' H'
  | .ex e τ => ∀ d tp' G' H', Ext tp0 G0 H0 G' H' → SB W G' H' → TapeO W G' H' tp' τ → (tp' = tp0 ∨ tp0 = none) → ExR W G' H' e d → E (.ref (W.cm e.cls)) d H'
  | .no => False
def dISetV (f : Str) (e : DE) (r : DI') : DI' := fun ρ τ fs => (e ρ τ).bind fun d τ1 => if flatD d = true ∧ fs.length < 1000 then r ρ τ1 (putD f d fs) else .no
def dISetL (f : Str) (e : PEnv → TS' → R OC) (r : DI') : DI' := fun ρ τ fs => (e ρ τ).bind fun c τ1 => match c with
  | .lst ys => if ys.all flatD = true ∧ fs.length < 1000 then r ρ τ1 (putD f (.lst ys) fs) else .no
  | _ => .no
section
variable {W : Wp} {E : XK} {cls f : Str} {x dx : Addr} {tp0 tp : Option Addr} {G0 G : GH} {H0 H : Hp} {σ : L2.St} {ρ : PEnv} {τ : TS'} {vs : List (Str × V)} {fs : List (Str × DD)} {te : TE} {δe : DE} {t : L2.TS} {δ : DI'}
theorem AvF.done (I : EnvI W cls x dx tp0 G0 H0 tp G H σ ρ τ vs fs) (av : AvF W H0 G vs fs) {D : Ends} (P : PsIS W E tp0 G0 H0 x D (dIEnd cls ρ τ fs)) : D.nx σ H := by
  have sg : GS G (G.upd x (.ins (W.cm cls) dx vs)) := GS.new I.g
  refine P tp (G.upd x (.ins (W.cm cls) dx vs)) H σ (I.e.e.frzN I.h0 I.g) (I.e.v.g.frz I.at' rfl) (I.e.v.t.frz1 I.g I.nt) (I.e.t.imp id fun z => z.1) (.obj upd_same (I.r.mono sg)) (fun B hB => ?_)
  · have nb : ¬ B x := fun z => hB x z I.h0
    exact .obj (by rw [mns_out nb]; exact upd_same) ((av B hB).mono (mns_same sg))
end
def IPostS (W : Wp) (tp : Option Addr) (G : GH) (H : Hp) (x : Addr) (Q : VK) (E : XK) : R DD → Prop
  | .ok d τ' => ∀ G' H', Ext tp G H G' H' → SB W G' H' → TapeO W G' H' tp τ' → Rp W.K W.cm G' (.ref x) d → (∀ B, OldB H B → Rp W.K W.cm (mns G' B) (.ref x) d) → Q .non H'
  | .ex e τ' => ∀ d G' H', Ext tp G H G' H' → SB W G' H' → TapeO W G' H' tp τ' → ExR W G' H' e d → E (.ref (W.cm e.cls)) d H'
  | .no => False
def spIS (W : Wp) (k : Nat) (cls : Str) (F : FnI) : Sp := fun vs H1 Q E => vs.length = k ∧ ∃ x dx H rest tp G as τ, vs = .ref x :: rest ∧ H x = none ∧ H dx = none ∧ dx ≠ x ∧ H1 = upd (upd H dx (.own x)) x (.ins (W.cm cls) dx []) ∧
  SB W G H ∧ Paired (ArgR W tp G) rest as ∧ TapeO W G H tp τ ∧ IPostS W tp G H x Q E (F x as τ)
theorem spI_S {W : Wp} {k : Nat} {cls : Str} {F : FnI} {vs : List V} {H : Hp} {Q : VK} {E : XK} (h : spI W k cls F vs H Q E) : spIS W k cls F vs H Q E := by
  obtain ⟨l, x, dx, H0, rest, tp, G, as, τ, h1, h2, h3, h4, h5, h6, h7, h8, P⟩ := h
  refine ⟨l, x, dx, H0, rest, tp, G, as, τ, h1, h2, h3, h4, h5, h6, h7, h8, ?_⟩
  revert P
  cases F x as τ with
  | ok d τ' => exact fun P G' H' e s t r _ => P G' H' e s t r
  | ex y τ' => exact fun P => P
  | no => exact fun P => P
theorem MkC.weak {P : Program} {w : World} {K : PySem.W.Frag} {mg : Str → Option Value} {base : Heap} {CX : CXT} {k : Nat} {C : Addr} {ps : List Str} {W : Wp} {m : Nat} {cls : Str} {F : FnI} {n : Nat} {ks : List Str} {gV : List V → List V → List V}
    (h : MkC P w K mg base CX k C ps (spIS W m cls F) n ks gV) : MkC P w K mg base CX k C ps (spI W m cls F) n ks gV := by
  obtain ⟨f, fd, M, G, b⟩ := h
  exact ⟨f, fd, M, ⟨fun vs H Q E q => G.len vs H Q E (spI_S q), fun A outer s H args us vs Q E g r e bt v q => G.run A outer s H args us vs Q E g r e bt v (spI_S q)⟩, b⟩
noncomputable def dMkB (i k n m : Nat) (F : FnI) (g : List PV → List PV → List PV) (a b : DPs) : DE := fun ρ τ => match ρ[i]? with
  | some (some (.ow c)) => match dMkN' k n m F g a b (bor i c ρ) none with
    | .ok d _ => .ok d τ
    | _ => .no
  | _ => .no
end Np
set_option Elab.async false
set_option linter.all false
set_option maxRecDepth 100000
set_option maxHeartbeats 4000000
namespace Np
open PySem PySem.Spec PyProof.Rows L2
section
variable {W : Wp} {Wx : L2.St → XK} {te : TE} {δe : DE}
def popD (xs : List DD) (n : Int) : Option (Nat × DD) := if -(2 ^ 63) ≤ n ∧ n < 2 ^ 63 then (seqIndex? n xs.length).bind fun k => (xs[k]?).map fun y => (k, y) else none
def dPopA (i j : Nat) (e : DE) : DS := fun ρ τ => match ρ[i]? with
  | some (some (.ow (.lst xs))) => stE (e ρ τ) ρ fun d τ1 => match d with
    | .int n => match popD xs n with
      | some (k, y) => .ok (.nx ((ρ.set i (some (.ow (.lst (xs.eraseIdx k))))).set j (some (.fr y)))) τ1
      | none => .no
    | _ => .no
  | _ => .no
abbrev gWords := m0 fun z => if z.length + 2 ≤ sizeLine then some (.lst ((Txt.words z).map DD.str)) else none
end
end Np
set_option Elab.async false
set_option linter.all false
set_option maxRecDepth 100000
set_option maxHeartbeats 4000000
namespace Np
open PySem PySem.Spec PyProof.Rows L2
section
variable {α β : Type} {ρ : PEnv} {τ : TS'} {a b c : DE} {d x y : DD} {g g' : DD → DD → Option DD} {i j : Nat} {δ δ' : DS} {r : DA}
@[simp] theorem ev_sizeLine : sizeLine = 16777216 := sizeLine_eq
@[simp] theorem ev_C : dC d ρ τ = .ok d τ := id rfl
def eSlot : Option (Option PV) → TS' → R DD
  | some (some (.fr d)), τ => .ok d τ
  | _, _ => .no
@[simp] theorem eSlot_fr : eSlot (some (some (.fr d))) τ = .ok d τ := id rfl
@[simp] theorem ev_V : dV i ρ τ = eSlot ρ[i]? τ := by
  unfold dV eSlot
  generalize ρ[i]? = o
  rcases o with _ | _ | p
  · rfl
  · rfl
  · cases p <;> rfl
def eOp1 (r : R DD) (g : DD → DD → Option DD) (b : DE) (ρ : PEnv) : R DD := r.bind fun x τ1 => (b ρ τ1).bind fun y τ2 => R.of τ2 (g x y)
def eOp2 (r : R DD) (g : DD → DD → Option DD) (x : DD) : R DD := r.bind fun y τ2 => R.of τ2 (g x y)
@[simp] theorem ev_Op : dOp g a b ρ τ = eOp1 (a ρ τ) g b ρ := id rfl
@[simp] theorem eOp1_ok : eOp1 (.ok x τ) g b ρ = eOp2 (b ρ τ) g x := id rfl
@[simp] theorem eOp2_ok : eOp2 (.ok y τ) g x = R.of τ (g x y) := id rfl
def eUn (r : R α) (g : α → Option β) : R β := r.bind fun x τ1 => R.of τ1 (g x)
@[simp] theorem ev_Un {g : DD → Option DD} : dUn g a ρ τ = eUn (a ρ τ) g := id rfl
@[simp] theorem eUn_ok {x : α} {g : α → Option β} : eUn (.ok x τ) g = R.of τ (g x) := id rfl
@[simp] theorem ev_Nil : dNil ρ τ = .ok [] τ := id rfl
def eCons1 (r : R α) (f : PEnv → TS' → R (List α)) (ρ : PEnv) : R (List α) := r.bind fun x τ1 => (f ρ τ1).bind fun xs τ2 => .ok (x :: xs) τ2
def eCons2 (r : R (List α)) (x : α) : R (List α) := r.bind fun xs τ2 => .ok (x :: xs) τ2
@[simp] theorem ev_Cons : dCons a r ρ τ = eCons1 (a ρ τ) r ρ := id rfl
@[simp] theorem eCons1_ok {x : α} {f : PEnv → TS' → R (List α)} : eCons1 (.ok x τ) f ρ = eCons2 (f ρ τ) x := id rfl
@[simp] theorem eCons2_ok {x : α} {xs : List α} : eCons2 (.ok xs τ) x = .ok (x :: xs) τ := id rfl
@[simp] theorem ev_Call {g : List DD → Option DD} : dCall g r ρ τ = eUn (r ρ τ) g := id rfl
def eSeqD (r : R (List DD)) (f : List DD → DD) : R DD := r.bind fun x τ1 => if x.length ≤ sizeLine then .ok (f x) τ1 else .no
@[simp] theorem ev_Lst : dLst r ρ τ = eSeqD (r ρ τ) .lst := id rfl
@[simp] theorem ev_Tup : dTup r ρ τ = eSeqD (r ρ τ) .tup := id rfl
@[simp] theorem eSeqD_ok {xs : List DD} {f : List DD → DD} : eSeqD (.ok xs τ) f = if xs.length ≤ 16777216 then .ok (f xs) τ else .no := by
  show (if xs.length ≤ sizeLine then _ else _) = _
  rw [sizeLine_eq]
def eTest (r : R DD) : R Bool := r.bind fun x τ1 => match x with
  | .bl b => .ok b τ1
  | _ => .no
@[simp] theorem ev_Test : dTest a ρ τ = eTest (a ρ τ) := id rfl
@[simp] theorem eTest_ok {b : Bool} : eTest (.ok (.bl b) τ) = .ok b τ := id rfl
@[simp] theorem ev_Tru : dTru a ρ τ = eUn (a ρ τ) tru := id rfl
variable {A B : DT}
def eAnd (r : R Bool) (b : DT) (ρ : PEnv) : R Bool := r.bind fun x τ1 => if x = true then b ρ τ1 else .ok false τ1
@[simp] theorem ev_And : dAnd A B ρ τ = eAnd (A ρ τ) B ρ := id rfl
@[simp] theorem eAnd_t : eAnd (.ok true τ) B ρ = B ρ τ := id rfl
@[simp] theorem eAnd_f : eAnd (.ok false τ) B ρ = .ok false τ := id rfl
def eIf (r : R Bool) (b c : DE) (ρ : PEnv) : R DD := r.bind fun x τ1 => if x = true then b ρ τ1 else c ρ τ1
@[simp] theorem ev_If : dIf A b c ρ τ = eIf (A ρ τ) b c ρ := id rfl
@[simp] theorem eIf_t : eIf (.ok true τ) b c ρ = b ρ τ := id rfl
@[simp] theorem eIf_f : eIf (.ok false τ) b c ρ = c ρ τ := id rfl
def eAndV (r : R DD) (b : DE) (ρ : PEnv) : R DD := r.bind fun x τ1 => match x with
  | .bl true => b ρ τ1
  | .bl false => .ok (.bl false) τ1
  | _ => .no
def eOrV (r : R DD) (b : DE) (ρ : PEnv) : R DD := r.bind fun x τ1 => match x with
  | .bl true => .ok (.bl true) τ1
  | .bl false => b ρ τ1
  | _ => .no
def eNotV (r : R DD) : R DD := r.bind fun x τ1 => match x with
  | .bl b => .ok (.bl (!b)) τ1
  | _ => .no
@[simp] theorem ev_AndV : dAndV a b ρ τ = eAndV (a ρ τ) b ρ := id rfl
@[simp] theorem ev_OrV : dOrV a b ρ τ = eOrV (a ρ τ) b ρ := id rfl
@[simp] theorem ev_NotV : dNotV a ρ τ = eNotV (a ρ τ) := id rfl
@[simp] theorem eAndV_t : eAndV (.ok (.bl true) τ) b ρ = b ρ τ := id rfl
@[simp] theorem eAndV_f : eAndV (.ok (.bl false) τ) b ρ = .ok (.bl false) τ := id rfl
@[simp] theorem eOrV_t : eOrV (.ok (.bl true) τ) b ρ = .ok (.bl true) τ := id rfl
@[simp] theorem eOrV_f : eOrV (.ok (.bl false) τ) b ρ = b ρ τ := id rfl
@[simp] theorem eNotV_ok {k : Bool} : eNotV (.ok (.bl k) τ) = .ok (.bl (!k)) τ := id rfl
def eCh1 (r : R DD) (g g' : DD → DD → Option DD) (b c : DE) (ρ : PEnv) : R DD := r.bind fun x τ1 => (b ρ τ1).bind fun y τ2 => (R.of τ2 (g x y)).bind fun z τ3 => match z with
  | .bl true => (c ρ τ3).bind fun w τ4 => R.of τ4 (g' y w)
  | .bl false => .ok (.bl false) τ3
  | _ => .no
def eCh2 (r : R DD) (g g' : DD → DD → Option DD) (x : DD) (c : DE) (ρ : PEnv) : R DD := r.bind fun y τ2 => (R.of τ2 (g x y)).bind fun z τ3 => match z with
  | .bl true => (c ρ τ3).bind fun w τ4 => R.of τ4 (g' y w)
  | .bl false => .ok (.bl false) τ3
  | _ => .no
def eCh3 (z : Option DD) (g' : DD → DD → Option DD) (y : DD) (c : DE) (ρ : PEnv) (τ : TS') : R DD := (R.of τ z).bind fun z τ3 => match z with
  | .bl true => (c ρ τ3).bind fun w τ4 => R.of τ4 (g' y w)
  | .bl false => .ok (.bl false) τ3
  | _ => .no
@[simp] theorem ev_Chain : dChain g g' a b c ρ τ = eCh1 (a ρ τ) g g' b c ρ := id rfl
@[simp] theorem eCh1_ok : eCh1 (.ok x τ) g g' b c ρ = eCh2 (b ρ τ) g g' x c ρ := id rfl
@[simp] theorem eCh2_ok : eCh2 (.ok y τ) g g' x c ρ = eCh3 (g x y) g' y c ρ τ := id rfl
@[simp] theorem eCh3_t : eCh3 (some (.bl true)) g' y c ρ τ = eOp2 (c ρ τ) g' y := id rfl
@[simp] theorem eCh3_f : eCh3 (some (.bl false)) g' y c ρ τ = .ok (.bl false) τ := id rfl
@[simp] theorem oInt_ii {f : Int → Int → Option DD} {m n : Int} : oInt f (.int m) (.int n) = f m n := id rfl
@[simp] theorem oStr_ss {f : Str → Str → Option DD} {m n : Str} : oStr f (.str m) (.str n) = f m n := id rfl
@[simp] theorem gIxL_eq {ds : List DD} {n : Int} : gIxL (.lst ds) (.int n) = atI ds n := id rfl
@[simp] theorem gIxT_eq {ds : List DD} {n : Int} : gIxT (.tup ds) (.int n) = atI ds n := id rfl
@[simp] theorem gIxS_eq {z : Str} {n : Int} : gIxS (.str z) (.int n) = if z.length ≤ sizeLine then (atI z.cps.toList n).map fun c => .str ⟨#[c]⟩ else none := id rfl
@[simp] theorem gCat_eq {xs ys : List DD} : gCat (.lst xs) (.lst ys) = if xs.length + ys.length ≤ sizeLine then some (.lst (xs ++ ys)) else none := id rfl
@[simp] theorem gCatT_eq {xs ys : List DD} : gCatT (.tup xs) (.tup ys) = if xs.length + ys.length ≤ sizeLine then some (.tup (xs ++ ys)) else none := id rfl
@[simp] theorem gRep_eq {xs : List DD} {n : Int} : gRep (.lst xs) (.int n) = if -(2 ^ 63) ≤ n ∧ n < 2 ^ 63 ∧ xs.length * n.toNat ≤ sizeLine then some (.lst (List.replicate n.toNat xs).flatten) else none := id rfl
@[simp] theorem gMulS_eq {z : Str} {n : Int} : gMulS (.str z) (.int n) = if MulOk z n then some (.str (Txt.mul z n)) else none := id rfl
@[simp] theorem gEq_ii {k : Bool} {m n : Int} : gEq k (.int m) (.int n) = some (.bl (if k then !decide (m = n) else decide (m = n))) := id rfl
@[simp] theorem gEq_ss {k : Bool} {m n : Str} : gEq k (.str m) (.str n) = some (.bl (if k then !decide (m = n) else decide (m = n))) := id rfl
@[simp] theorem gEq_bb {k m n : Bool} : gEq k (.bl m) (.bl n) = some (.bl (if k then !decide (m = n) else decide (m = n))) := id rfl
@[simp] theorem gIsN_n {k : Bool} : gIsN k .non .non = some (.bl (!k)) := id rfl
@[simp] theorem gIsN_i {k : Bool} {m : Int} : gIsN k (.int m) .non = some (.bl k) := id rfl
@[simp] theorem gIsN_s {k : Bool} {m : Str} : gIsN k (.str m) .non = some (.bl k) := id rfl
@[simp] theorem gIsN_b {k m : Bool} : gIsN k (.bl m) .non = some (.bl k) := id rfl
@[simp] theorem gIsN_l {k : Bool} {m : List DD} : gIsN k (.lst m) .non = some (.bl k) := id rfl
@[simp] theorem gIsN_t {k : Bool} {m : List DD} : gIsN k (.tup m) .non = some (.bl k) := id rfl
@[simp] theorem gNeg_eq {n : Int} : gNeg (.int n) = some (.int (-n)) := id rfl
@[simp] theorem c1_one {f : DD → Option DD} : c1 f [d] = f d := id rfl
@[simp] theorem c2_two {f : DD → DD → Option DD} : c2 f [x, y] = f x y := id rfl
@[simp] theorem gLenS_eq {z : Str} : gLenS (.str z) = if z.length ≤ sizeLine then some (.int z.length) else none := id rfl
@[simp] theorem gLenL_l {ds : List DD} : gLenL (.lst ds) = some (.int ds.length) := id rfl
@[simp] theorem gLenL_t {ds : List DD} : gLenL (.tup ds) = some (.int ds.length) := id rfl
@[simp] theorem gAbs_eq {n : Int} : gAbs (.int n) = some (.int (if n < 0 then -n else n)) := id rfl
@[simp] theorem gStrI_eq {n : Int} : gStrI (.int n) = if n.natAbs.log2 < 1920 then some (.str (toString n)) else none := id rfl
@[simp] theorem gIntS_eq {z : Str} : gIntS (.str z) = if z.length ≤ 640 then (PySem.intText? z).map .int else none := id rfl
@[simp] theorem gInt1_i {n : Int} : gInt1 (.int n) = some (.int n) := id rfl
@[simp] theorem gInt1_b {n : Bool} : gInt1 (.bl n) = some (.int (if n then 1 else 0)) := id rfl
@[simp] theorem gSum_eq {ds : List DD} : gSum (.lst ds) = (ints? ds).map fun ns => .int ns.sum := id rfl
@[simp] theorem gAllL_eq {ds : List DD} : gAllL (.lst ds) = (bls? ds).map fun bs => .bl (bs.all id) := id rfl
@[simp] theorem gAnyL_eq {ds : List DD} : gAnyL (.lst ds) = (bls? ds).map fun bs => .bl (bs.any id) := id rfl
@[simp] theorem gList_l {ds : List DD} : gList (.lst ds) = some (.lst ds) := id rfl
@[simp] theorem gList_t {ds : List DD} : gList (.tup ds) = some (.lst ds) := id rfl
@[simp] theorem gList_tux {ds : List DD} : gList (.tux ds) = some (.lst ds) := id rfl
@[simp] theorem gLenL_tux {ds : List DD} : gLenL (.tux ds) = some (.int ds.length) := id rfl
@[simp] theorem gTuple_l {ds : List DD} : gTuple (.lst ds) = some (.tup ds) := id rfl
@[simp] theorem gTuple_t {ds : List DD} : gTuple (.tup ds) = some (.tup ds) := id rfl
@[simp] theorem gListS_eq {z : Str} : gListS (.str z) = if z.length ≤ sizeLine then some (.lst (signs z)) else none := id rfl
@[simp] theorem gIsi_i {T : String} {n : Int} : gIsi T (.int n) = some (.bl (isT T "int")) := id rfl
@[simp] theorem gIsi_b {T : String} {n : Bool} : gIsi T (.bl n) = some (.bl (isT T "bool")) := id rfl
@[simp] theorem gIsi_s {T : String} {n : Str} : gIsi T (.str n) = some (.bl (isT T "str")) := id rfl
@[simp] theorem gIsi_n {T : String} : gIsi T .non = some (.bl (isT T "NoneType")) := id rfl
@[simp] theorem gIsi_l {T : String} {n : List DD} : gIsi T (.lst n) = some (.bl (isT T "list")) := id rfl
@[simp] theorem gIsi_t {T : String} {n : List DD} : gIsi T (.tup n) = some (.bl (isT T "tuple")) := id rfl
@[simp] theorem gIsi2_i {T U : String} {n : Int} : gIsi2 T U (.int n) = some (.bl (isT T "int" || isT U "int")) := id rfl
@[simp] theorem gIsi2_b {T U : String} {n : Bool} : gIsi2 T U (.bl n) = some (.bl (isT T "bool" || isT U "bool")) := id rfl
@[simp] theorem gIsi2_s {T U : String} {n : Str} : gIsi2 T U (.str n) = some (.bl (isT T "str" || isT U "str")) := id rfl
@[simp] theorem gIsi2_n {T U : String} : gIsi2 T U .non = some (.bl (isT T "NoneType" || isT U "NoneType")) := id rfl
@[simp] theorem gIsi2_l {T U : String} {n : List DD} : gIsi2 T U (.lst n) = some (.bl (isT T "list" || isT U "list")) := id rfl
@[simp] theorem gIsi2_t {T U : String} {n : List DD} : gIsi2 T U (.tup n) = some (.bl (isT T "tuple" || isT U "tuple")) := id rfl
@[simp] theorem tru_n : tru .non = some false := id rfl
@[simp] theorem tru_b {b : Bool} : tru (.bl b) = some b := id rfl
@[simp] theorem tru_i {b : Int} : tru (.int b) = some (b != 0) := id rfl
@[simp] theorem tru_l {b : List DD} : tru (.lst b) = some (!b.isEmpty) := id rfl
@[simp] theorem tru_t {b : List DD} : tru (.tup b) = some (!b.isEmpty) := id rfl
variable {l h : DO}
@[simp] theorem ev_NoP : dNoP ρ τ = .ok none τ := id rfl
def ePart (r : R DD) : R (Option Int) := r.bind fun x τ1 => match x with
  | .int i => .ok (some i) τ1
  | _ => .no
@[simp] theorem ev_Part : dPart a ρ τ = ePart (a ρ τ) := id rfl
@[simp] theorem ePart_ok {n : Int} : ePart (.ok (.int n) τ) = .ok (some n) τ := id rfl
variable {G : DD → Option Int → Option Int → Option DD}
def eSl1 (r : R DD) (g : DD → Option Int → Option Int → Option DD) (l h : DO) (ρ : PEnv) : R DD := r.bind fun x τ1 => (l ρ τ1).bind fun lo τ2 => (h ρ τ2).bind fun hi τ3 => R.of τ3 (g x lo hi)
def eSl2 (r : R (Option Int)) (g : DD → Option Int → Option Int → Option DD) (x : DD) (h : DO) (ρ : PEnv) : R DD := r.bind fun lo τ2 => (h ρ τ2).bind fun hi τ3 => R.of τ3 (g x lo hi)
def eSl3 (r : R (Option Int)) (g : DD → Option Int → Option Int → Option DD) (x : DD) (lo : Option Int) : R DD := r.bind fun hi τ3 => R.of τ3 (g x lo hi)
@[simp] theorem ev_Sl : dSl G a l h ρ τ = eSl1 (a ρ τ) G l h ρ := id rfl
@[simp] theorem eSl1_ok : eSl1 (.ok x τ) G l h ρ = eSl2 (l ρ τ) G x h ρ := id rfl
@[simp] theorem eSl2_ok {lo : Option Int} : eSl2 (.ok lo τ) G x h ρ = eSl3 (h ρ τ) G x lo := id rfl
@[simp] theorem eSl3_ok {lo hi : Option Int} : eSl3 (.ok hi τ) G x lo = R.of τ (G x lo hi) := id rfl
@[simp] theorem gSlL_eq {ds : List DD} {lo hi : Option Int} : gSlL (.lst ds) lo hi = some (.lst (cutL ds lo hi)) := id rfl
@[simp] theorem gSlS_eq {z : Str} {lo hi : Option Int} : gSlS (.str z) lo hi = if z.length ≤ sizeLine then some (.str (cutS z lo hi)) else none := id rfl
@[simp] theorem gRevL_eq {ds : List DD} : gRevL (.lst ds) = some (.lst ds.reverse) := id rfl
@[simp] theorem gRevS_eq {z : Str} : gRevS (.str z) = if z.length ≤ sizeLine then some (.str (revS z)) else none := id rfl
variable {M : Str → List DD → Option DD}
def eM0 (r : R DD) (g : Str → List DD → Option DD) : R DD := r.bind fun x τ1 => match x with
  | .str z => R.of τ1 (g z [])
  | _ => .no
def eM1 (r : R DD) (g : Str → List DD → Option DD) (a : DE) (ρ : PEnv) : R DD := r.bind fun x τ1 => match x with
  | .str z => (a ρ τ1).bind fun y τ2 => R.of τ2 (g z [y])
  | _ => .no
def eM2 (r : R DD) (g : Str → List DD → Option DD) (z : Str) : R DD := r.bind fun y τ2 => R.of τ2 (g z [y])
def eMs (r : R DD) (g : Str → List DD → Option DD) (a : DA) (ρ : PEnv) : R DD := r.bind fun x τ1 => match x with
  | .str z => (a ρ τ1).bind fun y τ2 => R.of τ2 (g z y)
  | _ => .no
def eMs2 (r : R (List DD)) (g : Str → List DD → Option DD) (z : Str) : R DD := r.bind fun y τ2 => R.of τ2 (g z y)
@[simp] theorem ev_M0 : dM0 M a ρ τ = eM0 (a ρ τ) M := id rfl
@[simp] theorem ev_M1 : dM1 M a b ρ τ = eM1 (a ρ τ) M b ρ := id rfl
@[simp] theorem ev_Ms : dMs M a r ρ τ = eMs (a ρ τ) M r ρ := id rfl
@[simp] theorem eM0_ok {z : Str} : eM0 (.ok (.str z) τ) M = R.of τ (M z []) := id rfl
@[simp] theorem eM1_ok {z : Str} : eM1 (.ok (.str z) τ) M a ρ = eM2 (a ρ τ) M z := id rfl
@[simp] theorem eM2_ok {z : Str} : eM2 (.ok x τ) M z = R.of τ (M z [x]) := id rfl
@[simp] theorem eMs_ok {z : Str} : eMs (.ok (.str z) τ) M r ρ = eMs2 (r ρ τ) M z := id rfl
@[simp] theorem eMs2_ok {z : Str} {xs : List DD} : eMs2 (.ok xs τ) M z = R.of τ (M z xs) := id rfl
@[simp] theorem m0_ev {f : Str → Option DD} {z : Str} : m0 f z [] = f z := id rfl
@[simp] theorem m1S_ev {f : Str → Str → Option DD} {z w : Str} : m1S f z [.str w] = f z w := id rfl
@[simp] theorem m1I_ev {f : Str → Int → Option DD} {z : Str} {w : Int} : m1I f z [.int w] = f z w := id rfl
@[simp] theorem gFmt_s {z : Str} : gFmt (.str z) = if z.length ≤ sizeLine then some (.str z) else none := id rfl
@[simp] theorem gFmt_i {n : Int} : gFmt (.int n) = if n.natAbs.log2 < 1920 then some (.str (toString n)) else none := id rfl
def eJs (r : R DD) (acc : Str) (ds : List DE) (ρ : PEnv) : R DD := r.bind fun x τ1 => match x with
  | .str y => if (acc ++ y).length ≤ sizeLine then dJs ds (acc ++ y) ρ τ1 else .no
  | _ => .no
variable {ds : List DE} {acc : Str}
@[simp] theorem ev_Js0 : dJs [] acc ρ τ = .ok (.str acc) τ := id rfl
@[simp] theorem ev_Js : dJs (a :: ds) acc ρ τ = eJs (a ρ τ) acc ds ρ := id rfl
def lst? : DD → Option (List DD)
  | .lst ds => some ds
  | _ => none
def tup? : DD → Option (List DD)
  | .tup ds => some ds
  | .tux ds => some ds
  | _ => none
def sgn? : DD → Option (List DD)
  | .str z => some (signs z)
  | _ => none
@[simp] theorem lst?_eq {ds : List DD} : lst? (.lst ds) = some ds := id rfl
@[simp] theorem tup?_eq {ds : List DD} : tup? (.tup ds) = some ds := id rfl
@[simp] theorem tup?_tux {ds : List DD} : tup? (.tux ds) = some ds := id rfl
@[simp] theorem sgn?_eq {z : Str} : sgn? (.str z) = some (signs z) := id rfl
@[simp] theorem ev_IList : dIList a ρ τ = eUn (a ρ τ) lst? := by
  unfold dIList eUn
  congr 1
  funext x τ1
  cases x <;> rfl
@[simp] theorem ev_ITup : dITup a ρ τ = eUn (a ρ τ) tup? := by
  unfold dITup eUn
  congr 1
  funext x τ1
  cases x <;> rfl
@[simp] theorem ev_IStr : dIStr a ρ τ = eUn (a ρ τ) sgn? := by
  unfold dIStr eUn
  congr 1
  funext x τ1
  cases x <;> rfl
def rg1 : List DD → Option (List DD)
  | [.int j] => if -(2 ^ 62) ≤ j ∧ j < 2 ^ 62 then some (rangeD 0 j.toNat) else none
  | _ => none
def rg2 : List DD → Option (List DD)
  | [.int i, .int j] => if -(2 ^ 62) ≤ i ∧ i < 2 ^ 62 ∧ -(2 ^ 62) ≤ j ∧ j < 2 ^ 62 then some (rangeD i (j - i).toNat) else none
  | _ => none
@[simp] theorem rg1_eq {n : Int} : rg1 [.int n] = if -(2 ^ 62) ≤ n ∧ n < 2 ^ 62 then some (rangeD 0 n.toNat) else none := id rfl
@[simp] theorem rg2_eq {m n : Int} : rg2 [.int m, .int n] = if -(2 ^ 62) ≤ m ∧ m < 2 ^ 62 ∧ -(2 ^ 62) ≤ n ∧ n < 2 ^ 62 then some (rangeD m (n - m).toNat) else none := id rfl
@[simp] theorem ev_IR1 : dIR1 r ρ τ = eUn (r ρ τ) rg1 := by
  unfold dIR1 eUn
  congr 1
  funext x τ1
  unfold rg1
  rcases x with _ | ⟨d, _ | ⟨e, x⟩⟩
  · rfl
  · cases d <;> first | rfl | (dsimp only [R.of]; split <;> rfl)
  · cases d <;> rfl
@[simp] theorem ev_IR2 : dIR2 r ρ τ = eUn (r ρ τ) rg2 := by
  unfold dIR2 eUn
  congr 1
  funext x τ1
  unfold rg2
  rcases x with _ | ⟨d, _ | ⟨e, _ | ⟨f, x⟩⟩⟩
  · rfl
  · cases d <;> rfl
  · cases d <;> cases e <;> first | rfl | (dsimp only [R.of]; split <;> rfl)
  · cases d <;> cases e <;> rfl
def en? : List DD → Option (List DD)
  | [.lst ds] => some (enumD ds)
  | _ => none
def zp? : List DD → Option (List DD)
  | [.lst ds, .lst es] => some (zipD ds es)
  | _ => none
def rv? : List DD → Option (List DD)
  | [.lst ds] => some ds.reverse
  | _ => none
@[simp] theorem en?_eq {ds : List DD} : en? [.lst ds] = some (enumD ds) := id rfl
@[simp] theorem zp?_eq {ds es : List DD} : zp? [.lst ds, .lst es] = some (zipD ds es) := id rfl
@[simp] theorem rv?_eq {ds : List DD} : rv? [.lst ds] = some ds.reverse := id rfl
@[simp] theorem ev_IEnum : dIEnum r ρ τ = eUn (r ρ τ) en? := by
  unfold dIEnum eUn
  congr 1
  funext x τ1
  unfold en?
  rcases x with _ | ⟨d, _ | ⟨e, x⟩⟩
  · rfl
  · cases d <;> first | rfl | (dsimp only [R.of]; split <;> rfl)
  · cases d <;> rfl
@[simp] theorem ev_IZip : dIZip r ρ τ = eUn (r ρ τ) zp? := by
  unfold dIZip eUn
  congr 1
  funext x τ1
  unfold zp?
  rcases x with _ | ⟨d, _ | ⟨e, _ | ⟨f, x⟩⟩⟩
  · rfl
  · cases d <;> rfl
  · cases d <;> cases e <;> first | rfl | (dsimp only [R.of]; split <;> rfl)
  · cases d <;> cases e <;> rfl
@[simp] theorem ev_IRev : dIRev r ρ τ = eUn (r ρ τ) rv? := by
  unfold dIRev eUn
  congr 1
  funext x τ1
  unfold rv?
  rcases x with _ | ⟨d, _ | ⟨e, x⟩⟩
  · rfl
  · cases d <;> first | rfl | (dsimp only [R.of]; split <;> rfl)
  · cases d <;> rfl
variable {I : DI} {t : Tg} {vs : List Nat}
def eLc1 (r : R (List DD)) (t : Tg) (c : DT) (e : DE) (ρ : PEnv) : R (List DD) := r.bind fun ds τ1 => if ds.length ≤ sizeLine then lcL t c e ρ ds τ1 else .no
def eMap (r : R α) (f : α → β) : R β := r.bind fun x τ1 => .ok (f x) τ1
@[simp] theorem eMap_ok {x : α} {f : α → β} : eMap (.ok x τ) f = .ok (f x) τ := id rfl
@[simp] theorem ev_Lc : dLc I t A a vs ρ τ = eMap (eLc1 (I ρ τ) t A a (wipeP ρ vs)) .lst := by
  unfold dLc eMap eLc1
  cases I ρ τ with
  | ok ds τ1 => simp only [R.bind_ok]; split <;> rfl
  | ex x τ1 => rfl
  | no => rfl
@[simp] theorem ev_LcF : dLcF I t A a vs ρ τ = eMap (eLc1 (I ρ τ) t A a (wipeP ρ vs)) .lst := by
  unfold dLcF eMap eLc1
  cases I ρ τ with
  | ok ds τ1 => simp only [R.bind_ok]; split <;> rfl
  | ex x τ1 => rfl
  | no => rfl
@[simp] theorem eLc1_ok {ds : List DD} : eLc1 (.ok ds τ) t A a ρ = if ds.length ≤ 16777216 then lcL t A a ρ ds τ else .no := by
  show (if ds.length ≤ sizeLine then _ else _) = _
  rw [sizeLine_eq]
@[simp] theorem wipeP_nil : wipeP ρ [] = ρ := id rfl
@[simp] theorem wipeP_cons : wipeP ρ (i :: vs) = (wipeP ρ vs).set i none := id rfl
@[simp] theorem ev_Yes : dYes ρ τ = .ok true τ := id rfl
@[simp] theorem tgF_nm : tgF (.nm i) d ρ = some (ρ.set i (some (.fr d))) := by rw [tgF]
@[simp] theorem tgF_tp {ts : List Tg} {ds : List DD} : tgF (.tp ts) (.tup ds) ρ = tgFs ts ds ρ := by rw [tgF]
@[simp] theorem tgFs_nil : tgFs [] [] ρ = some ρ := by rw [tgFs]
@[simp] theorem tgFs_cons {ts : List Tg} {ds : List DD} : tgFs (t :: ts) (d :: ds) ρ = (tgF t d ρ).bind (tgFs ts ds) := by
  rw [tgFs]
  cases tgF t d ρ <;> rfl
@[simp] theorem ev_Nx : dNx ρ τ = .ok (.nx ρ) τ := id rfl
@[simp] theorem ev_RetN : dRetN ρ τ = .ok (.rt .non) τ := id rfl
def eSeq (r : R Ct) (b : DS) : R Ct := match r with
  | .ok (.nx ρ1) τ1 => b ρ1 τ1
  | r => r
@[simp] theorem ev_Seq : dSeq δ δ' ρ τ = eSeq (δ ρ τ) δ' := id rfl
@[simp] theorem eSeq_nx : eSeq (.ok (.nx ρ) τ) δ = δ ρ τ := id rfl
@[simp] theorem eSeq_rt : eSeq (.ok (.rt d) τ) δ = .ok (.rt d) τ := id rfl
@[simp] theorem eSeq_bk : eSeq (.ok (.bk ρ) τ) δ = .ok (.bk ρ) τ := id rfl
@[simp] theorem eSeq_ct : eSeq (.ok (.ct ρ) τ) δ = .ok (.ct ρ) τ := id rfl
@[simp] theorem eSeq_xc {x : Ex} : eSeq (.ok (.xc x ρ) τ) δ = .ok (.xc x ρ) τ := id rfl
def eSet (r : R DD) (i : Nat) (ρ : PEnv) : R Ct := stE r ρ fun d τ1 => .ok (.nx (ρ.set i (some (.fr d)))) τ1
@[simp] theorem ev_Set : dSet i a ρ τ = eSet (a ρ τ) i ρ := id rfl
@[simp] theorem eSet_ok : eSet (.ok d τ) i ρ = .ok (.nx (ρ.set i (some (.fr d)))) τ := id rfl
@[simp] theorem eSet_ex {x : Ex} : eSet (.ex x τ) i ρ = .ok (.xc x ρ) τ := id rfl
def eDrop (r : R DD) (ρ : PEnv) : R Ct := stE r ρ fun d τ1 => .ok (.nx ρ) τ1
@[simp] theorem ev_Drop : dDrop a ρ τ = eDrop (a ρ τ) ρ := id rfl
@[simp] theorem eDrop_ok : eDrop (.ok d τ) ρ = .ok (.nx ρ) τ := id rfl
def eRet (r : R DD) (ρ : PEnv) : R Ct := stE r ρ fun d τ1 => .ok (.rt d) τ1
@[simp] theorem ev_Ret : dRet a ρ τ = eRet (a ρ τ) ρ := id rfl
@[simp] theorem eRet_ok : eRet (.ok d τ) ρ = .ok (.rt d) τ := id rfl
@[simp] theorem eRet_ex {x : Ex} : eRet (.ex x τ) ρ = .ok (.xc x ρ) τ := id rfl
def eIfS (r : R Bool) (a b : DS) (ρ : PEnv) : R Ct := stE r ρ fun x τ1 => if x = true then a ρ τ1 else b ρ τ1
@[simp] theorem ev_IfS : dIfS A δ δ' ρ τ = eIfS (A ρ τ) δ δ' ρ := id rfl
@[simp] theorem eIfS_t : eIfS (.ok true τ) δ δ' ρ = δ ρ τ := id rfl
@[simp] theorem eIfS_f : eIfS (.ok false τ) δ δ' ρ = δ' ρ τ := id rfl
def eAsg (o : Option PEnv) (τ : TS') : R Ct := match o with
  | some ρ1 => .ok (.nx ρ1) τ
  | none => .no
def eAsgT (r : R DD) (g : Tg) (ρ : PEnv) : R Ct := stE r ρ fun d τ1 => eAsg (tgF g d ρ) τ1
@[simp] theorem ev_AsgT : dAsgT a t ρ τ = eAsgT (a ρ τ) t ρ := id rfl
@[simp] theorem eAsgT_ok : eAsgT (.ok d τ) t ρ = eAsg (tgF t d ρ) τ := id rfl
@[simp] theorem eAsg_some {ρ1 : PEnv} : eAsg (some ρ1) τ = .ok (.nx ρ1) τ := id rfl
def eAug1 (o : Option (Option PV)) (i : Nat) (g : DD → DD → Option DD) (e : DE) (ρ : PEnv) (τ : TS') : R Ct := match o with
  | some (some (.fr x)) => stE (e ρ τ) ρ fun y τ1 => match g x y with
    | some z => .ok (.nx (ρ.set i (some (.fr z)))) τ1
    | none => .no
  | _ => .no
def eAug2 (r : R DD) (i : Nat) (g : DD → DD → Option DD) (x : DD) (ρ : PEnv) : R Ct := stE r ρ fun y τ1 => match g x y with
    | some z => .ok (.nx (ρ.set i (some (.fr z)))) τ1
    | none => .no
def eAug3 (o : Option DD) (i : Nat) (ρ : PEnv) (τ : TS') : R Ct := match o with
    | some z => .ok (.nx (ρ.set i (some (.fr z)))) τ
    | none => .no
@[simp] theorem ev_Aug : dAug i g a ρ τ = eAug1 ρ[i]? i g a ρ τ := id rfl
@[simp] theorem eAug1_ok : eAug1 (some (some (.fr x))) i g a ρ τ = eAug2 (a ρ τ) i g x ρ := id rfl
@[simp] theorem eAug2_ok : eAug2 (.ok y τ) i g x ρ = eAug3 (g x y) i ρ τ := id rfl
@[simp] theorem eAug3_ok : eAug3 (some d) i ρ τ = .ok (.nx (ρ.set i (some (.fr d)))) τ := id rfl
def ePar (r : R (List DD)) (i j : Nat) (ρ : PEnv) : R Ct := stE r ρ fun ds τ1 => match ds with
  | [d, e] => .ok (.nx ((ρ.set i (some (.fr d))).set j (some (.fr e)))) τ1
  | _ => .no
@[simp] theorem ev_Par : dPar i j r ρ τ = ePar (r ρ τ) i j ρ := id rfl
@[simp] theorem ePar_ok : ePar (.ok [x, y] τ) i j ρ = .ok (.nx ((ρ.set i (some (.fr x))).set j (some (.fr y)))) τ := id rfl
variable {φ ψ : PEnv → TS' → R OC}
def eSetO (r : R OC) (i : Nat) (ρ : PEnv) : R Ct := stE r ρ fun c τ1 => .ok (.nx (ρ.set i (some (.ow c)))) τ1
@[simp] theorem ev_SetO : dSetO i φ ρ τ = eSetO (φ ρ τ) i ρ := id rfl
@[simp] theorem eSetO_ok {c : OC} : eSetO (.ok c τ) i ρ = .ok (.nx (ρ.set i (some (.ow c)))) τ := id rfl
def eLstF (r : R (List DD)) : R OC := r.bind fun x τ1 => if x.length ≤ sizeLine then .ok (.lst x) τ1 else .no
@[simp] theorem ev_LstF : dLstF r ρ τ = eLstF (r ρ τ) := id rfl
@[simp] theorem eLstF_ok {xs : List DD} : eLstF (.ok xs τ) = if xs.length ≤ 16777216 then .ok (.lst xs) τ else .no := by
  show (if xs.length ≤ sizeLine then _ else _) = _
  rw [sizeLine_eq]
def its1 : List DD → Option OC
  | [d] => (items? d).map .lst
  | _ => none
@[simp] theorem its1_l {ds : List DD} : its1 [.lst ds] = some (.lst ds) := id rfl
@[simp] theorem its1_t {ds : List DD} : its1 [.tup ds] = some (.lst ds) := id rfl
@[simp] theorem ev_ListF : dListF r ρ τ = eUn (r ρ τ) its1 := by
  unfold dListF eUn
  congr 1
  funext x τ1
  unfold its1
  rcases x with _ | ⟨d, _ | ⟨e, x⟩⟩
  · rfl
  · dsimp only
    cases items? d <;> rfl
  · rfl
def olst : Option DD → Option OC
  | some (.lst cs) => some (.lst cs)
  | _ => none
def eOpF1 (r : R DD) (g : DD → DD → Option DD) (b : DE) (ρ : PEnv) : R OC := r.bind fun x τ1 => (b ρ τ1).bind fun y τ2 => R.of τ2 (olst (g x y))
def eOpF2 (r : R DD) (g : DD → DD → Option DD) (x : DD) : R OC := r.bind fun y τ2 => R.of τ2 (olst (g x y))
@[simp] theorem olst_eq {ds : List DD} : olst (some (.lst ds)) = some (.lst ds) := id rfl
@[simp] theorem ev_OpF : dOpF g a b ρ τ = eOpF1 (a ρ τ) g b ρ := by
  unfold dOpF eOpF1
  congr 1
  funext x τ1
  congr 1
  funext y τ2
  generalize g x y = o
  rcases o with _ | d
  · rfl
  · cases d <;> rfl
@[simp] theorem eOpF1_ok : eOpF1 (.ok x τ) g b ρ = eOpF2 (b ρ τ) g x := id rfl
@[simp] theorem eOpF2_ok : eOpF2 (.ok y τ) g x = R.of τ (olst (g x y)) := id rfl
def eApp1 (o : Option (Option PV)) (i : Nat) (e : DE) (ρ : PEnv) (τ : TS') : R Ct := match o with
  | some (some (.ow (.lst xs))) => stE (e ρ τ) ρ fun d τ1 => if xs.length < sizeLine then .ok (.nx (ρ.set i (some (.ow (.lst (xs ++ [d])))))) τ1 else .no
  | _ => .no
def eApp2 (r : R DD) (i : Nat) (xs : List DD) (ρ : PEnv) : R Ct := stE r ρ fun d τ1 => if xs.length < sizeLine then .ok (.nx (ρ.set i (some (.ow (.lst (xs ++ [d])))))) τ1 else .no
variable {xs ys : List DD}
@[simp] theorem ev_App : dApp i a ρ τ = eApp1 ρ[i]? i a ρ τ := id rfl
@[simp] theorem eApp1_ok : eApp1 (some (some (.ow (.lst xs)))) i a ρ τ = eApp2 (a ρ τ) i xs ρ := id rfl
@[simp] theorem eApp2_ok : eApp2 (.ok d τ) i xs ρ = if xs.length < 16777216 then .ok (.nx (ρ.set i (some (.ow (.lst (xs ++ [d])))))) τ else .no := by
  show (if xs.length < sizeLine then _ else _) = _
  rw [sizeLine_eq]
def eExt1 (o : Option (Option PV)) (i : Nat) (e : DE) (ρ : PEnv) (τ : TS') : R Ct := match o with
  | some (some (.ow (.lst xs))) => stE (e ρ τ) ρ fun d τ1 => match d with
    | .lst ys => if xs.length + ys.length ≤ sizeLine then .ok (.nx (ρ.set i (some (.ow (.lst (xs ++ ys)))))) τ1 else .no
    | _ => .no
  | _ => .no
def eExt2 (r : R DD) (i : Nat) (xs : List DD) (ρ : PEnv) : R Ct := stE r ρ fun d τ1 => match d with
    | .lst ys => if xs.length + ys.length ≤ sizeLine then .ok (.nx (ρ.set i (some (.ow (.lst (xs ++ ys)))))) τ1 else .no
    | _ => .no
@[simp] theorem ev_Ext : dExt i a ρ τ = eExt1 ρ[i]? i a ρ τ := id rfl
@[simp] theorem eExt1_ok : eExt1 (some (some (.ow (.lst xs)))) i a ρ τ = eExt2 (a ρ τ) i xs ρ := id rfl
@[simp] theorem eExt2_ok : eExt2 (.ok (.lst ys) τ) i xs ρ = if xs.length + ys.length ≤ 16777216 then .ok (.nx (ρ.set i (some (.ow (.lst (xs ++ ys)))))) τ else .no := by
  show (if xs.length + ys.length ≤ sizeLine then _ else _) = _
  rw [sizeLine_eq]
def eRevO (o : Option (Option PV)) (i : Nat) (ρ : PEnv) (τ : TS') : R Ct := match o with
  | some (some (.ow (.lst xs))) => .ok (.nx (ρ.set i (some (.ow (.lst xs.reverse))))) τ
  | _ => .no
@[simp] theorem ev_RevO : dRevO i ρ τ = eRevO ρ[i]? i ρ τ := id rfl
@[simp] theorem eRevO_ok : eRevO (some (some (.ow (.lst xs)))) i ρ τ = .ok (.nx (ρ.set i (some (.ow (.lst xs.reverse))))) τ := id rfl
def ePut1 (r : R DD) (i : Nat) (k : DE) (ρ : PEnv) : R Ct := stE r ρ fun d τ1 => match ρ[i]? with
  | some (some (.ow (.lst xs))) => stE (k ρ τ1) ρ fun n τ2 => match n with
    | .int n => match ixN xs.length n with
      | some j => .ok (.nx (ρ.set i (some (.ow (.lst (xs.set j d)))))) τ2
      | none => .no
    | _ => .no
  | _ => .no
def ePut2 (o : Option (Option PV)) (i : Nat) (k : DE) (d : DD) (ρ : PEnv) (τ : TS') : R Ct := match o with
  | some (some (.ow (.lst xs))) => stE (k ρ τ) ρ fun n τ2 => match n with
    | .int n => match ixN xs.length n with
      | some j => .ok (.nx (ρ.set i (some (.ow (.lst (xs.set j d)))))) τ2
      | none => .no
    | _ => .no
  | _ => .no
def ePut3 (r : R DD) (i : Nat) (d : DD) (xs : List DD) (ρ : PEnv) : R Ct := stE r ρ fun n τ2 => match n with
    | .int n => match ixN xs.length n with
      | some j => .ok (.nx (ρ.set i (some (.ow (.lst (xs.set j d)))))) τ2
      | none => .no
    | _ => .no
def ePut4 (o : Option Nat) (i : Nat) (d : DD) (xs : List DD) (ρ : PEnv) (τ : TS') : R Ct := match o with
      | some j => .ok (.nx (ρ.set i (some (.ow (.lst (xs.set j d)))))) τ
      | none => .no
@[simp] theorem ev_PutL : dPutL i b a ρ τ = ePut1 (a ρ τ) i b ρ := id rfl
@[simp] theorem ePut1_ok : ePut1 (.ok d τ) i b ρ = ePut2 ρ[i]? i b d ρ τ := id rfl
@[simp] theorem ePut2_ok : ePut2 (some (some (.ow (.lst xs)))) i b d ρ τ = ePut3 (b ρ τ) i d xs ρ := id rfl
@[simp] theorem ePut3_ok {n : Int} : ePut3 (.ok (.int n) τ) i d xs ρ = ePut4 (ixN xs.length n) i d xs ρ τ := id rfl
@[simp] theorem ePut4_ok : ePut4 (some j) i d xs ρ τ = .ok (.nx (ρ.set i (some (.ow (.lst (xs.set j d)))))) τ := id rfl
def eFrz (o : Option (Option PV)) (i : Nat) (ρ : PEnv) : PEnv := match o with
  | some (some (.ow c)) => ρ.set i (some (.fr (ocD c)))
  | _ => ρ
@[simp] theorem ev_Frz : dFrz i δ ρ τ = δ (eFrz ρ[i]? i ρ) τ := id rfl
@[simp] theorem eFrz_ow {c : OC} : eFrz (some (some (.ow c))) i ρ = ρ.set i (some (.fr (ocD c))) := id rfl
@[simp] theorem eFrz_fr : eFrz (some (some (.fr d))) i ρ = ρ := id rfl
@[simp] theorem eFrz_no : eFrz (some none) i ρ = ρ := id rfl
@[simp] theorem ocD_l : ocD (.lst xs) = .lst xs := id rfl
def eParO (r : R OC) (j : Nat) (ρ ρ' : PEnv) : R Ct := stE r ρ fun y τ2 => .ok (.nx (ρ'.set j (some (.ow y)))) τ2
def eParF (r : R DD) (j : Nat) (ρ ρ' : PEnv) : R Ct := stE r ρ fun y τ2 => .ok (.nx (ρ'.set j (some (.fr y)))) τ2
def eParOO (r : R OC) (i j : Nat) (b : PEnv → TS' → R OC) (ρ : PEnv) : R Ct := stE r ρ fun x τ1 => eParO (b ρ τ1) j ρ (ρ.set i (some (.ow x)))
def eParOF (r : R OC) (i j : Nat) (b : DE) (ρ : PEnv) : R Ct := stE r ρ fun x τ1 => eParF (b ρ τ1) j ρ (ρ.set i (some (.ow x)))
def eParFO (r : R DD) (i j : Nat) (b : PEnv → TS' → R OC) (ρ : PEnv) : R Ct := stE r ρ fun x τ1 => eParO (b ρ τ1) j ρ (ρ.set i (some (.fr x)))
@[simp] theorem ev_ParOO : dParOO i j φ ψ ρ τ = eParOO (φ ρ τ) i j ψ ρ := id rfl
@[simp] theorem ev_ParOF : dParOF i j φ b ρ τ = eParOF (φ ρ τ) i j b ρ := id rfl
@[simp] theorem ev_ParFO : dParFO i j a ψ ρ τ = eParFO (a ρ τ) i j ψ ρ := id rfl
@[simp] theorem eParOO_ok {c : OC} : eParOO (.ok c τ) i j ψ ρ = eParO (ψ ρ τ) j ρ (ρ.set i (some (.ow c))) := id rfl
@[simp] theorem eParOF_ok {c : OC} : eParOF (.ok c τ) i j b ρ = eParF (b ρ τ) j ρ (ρ.set i (some (.ow c))) := id rfl
@[simp] theorem eParFO_ok : eParFO (.ok d τ) i j ψ ρ = eParO (ψ ρ τ) j ρ (ρ.set i (some (.fr d))) := id rfl
@[simp] theorem eParO_ok {c : OC} {ρ' : PEnv} : eParO (.ok c τ) j ρ ρ' = .ok (.nx (ρ'.set j (some (.ow c)))) τ := id rfl
@[simp] theorem eParF_ok {ρ' : PEnv} : eParF (.ok d τ) j ρ ρ' = .ok (.nx (ρ'.set j (some (.fr d)))) τ := id rfl
def eBor (o : Option (Option PV)) (i : Nat) (e : DE) (ρ : PEnv) (τ : TS') : R DD := match o with
  | some (some (.ow c)) => match e (bor i c ρ) none with
    | .ok d _ => if flatD d = true then .ok d τ else .no
    | _ => .no
  | _ => .no
def eBorT (o : Option (Option PV)) (i : Nat) (e : DT) (ρ : PEnv) (τ : TS') : R Bool := match o with
  | some (some (.ow c)) => match e (bor i c ρ) none with
    | .ok d _ => .ok d τ
    | _ => .no
  | _ => .no
def eBor2 (r : R DD) (τ : TS') : R DD := match r with
  | .ok d _ => if flatD d = true then .ok d τ else .no
  | _ => .no
def eBorT2 (r : R Bool) (τ : TS') : R Bool := match r with
  | .ok d _ => .ok d τ
  | _ => .no
@[simp] theorem ev_Bor : dBor i a ρ τ = eBor ρ[i]? i a ρ τ := id rfl
@[simp] theorem ev_BorT : dBorT i A ρ τ = eBorT ρ[i]? i A ρ τ := id rfl
@[simp] theorem eBor_ok {c : OC} : eBor (some (some (.ow c))) i a ρ τ = eBor2 (a (bor i c ρ) none) τ := id rfl
@[simp] theorem eBorT_ok {c : OC} : eBorT (some (some (.ow c))) i A ρ τ = eBorT2 (A (bor i c ρ) none) τ := id rfl
@[simp] theorem eBor2_i {n : Int} {τ' : TS'} : eBor2 (.ok (.int n) τ') τ = .ok (.int n) τ := id rfl
@[simp] theorem eBor2_s {n : Str} {τ' : TS'} : eBor2 (.ok (.str n) τ') τ = .ok (.str n) τ := id rfl
@[simp] theorem eBor2_b {n : Bool} {τ' : TS'} : eBor2 (.ok (.bl n) τ') τ = .ok (.bl n) τ := id rfl
@[simp] theorem eBor2_n {τ' : TS'} : eBor2 (.ok .non τ') τ = .ok .non τ := id rfl
@[simp] theorem eBorT2_ok {n : Bool} {τ' : TS'} : eBorT2 (.ok n τ') τ = .ok n τ := id rfl
@[simp] theorem bor_eq {c : OC} : bor i c ρ = (ρ.map hid).set i (some (.fr (ocD c))) := id rfl
@[simp] theorem hid_t : hid (some .tape) = none := id rfl
@[simp] theorem hid_n : hid none = none := id rfl
@[simp] theorem hid_f : hid (some (.fr d)) = some (.fr d) := id rfl
@[simp] theorem hid_o {c : OC} : hid (some (.ow c)) = some (.ow c) := id rfl
@[simp] theorem hid_s {ns : List Int} : hid (some (.scr ns)) = some (.scr ns) := id rfl
def eFor (r : R (List DD)) (g : Tg) (b : DS) (ρ : PEnv) : R Ct := stE r ρ fun ds τ1 => forL g b ds ρ τ1
@[simp] theorem ev_For : dFor I t δ ρ τ = eFor (I ρ τ) t δ ρ := id rfl
@[simp] theorem eFor_ok : eFor (.ok xs τ) t δ ρ = forL t δ xs ρ τ := id rfl
def eTurn (r : R Ct) (t : Tg) (b : DS) (ds : List DD) : R Ct := turnEnd r (forL t b ds)
theorem forL_cons {ρ1 : PEnv} (h : tgF t d ρ = some ρ1) : forL t δ (d :: xs) ρ τ = eTurn (δ ρ1 τ) t δ xs := by
  rw [forL, h]
  rfl
@[simp] theorem eTurn_nx : eTurn (.ok (.nx ρ) τ) t δ xs = forL t δ xs ρ τ := id rfl
@[simp] theorem eTurn_ct : eTurn (.ok (.ct ρ) τ) t δ xs = forL t δ xs ρ τ := id rfl
@[simp] theorem eTurn_bk : eTurn (.ok (.bk ρ) τ) t δ xs = .ok (.nx ρ) τ := id rfl
@[simp] theorem eTurn_rt : eTurn (.ok (.rt d) τ) t δ xs = .ok (.rt d) τ := id rfl
@[simp] theorem eTurn_xc {x : Ex} : eTurn (.ok (.xc x ρ) τ) t δ xs = .ok (.xc x ρ) τ := id rfl
/-- a loop by what holds ahead of each turn -/
theorem forL_inv {ds : List DD} (Inv : Nat → PEnv → TS' → Prop) (h0 : Inv 0 ρ τ)
    (hs : ∀ k d ρ τ, ds[k]? = some d → Inv k ρ τ → ∃ ρ1, tgF t d ρ = some ρ1 ∧ ∃ ρ2 τ2, (δ ρ1 τ = .ok (.nx ρ2) τ2 ∨ δ ρ1 τ = .ok (.ct ρ2) τ2) ∧ Inv (k + 1) ρ2 τ2) :
    ∃ ρ' τ', forL t δ ds ρ τ = .ok (.nx ρ') τ' ∧ Inv ds.length ρ' τ' := by
  have : ∀ (n k : Nat) (ρ : PEnv) (τ : TS'), ds.length - k = n → k ≤ ds.length → Inv k ρ τ → ∃ ρ' τ', forL t δ (ds.drop k) ρ τ = .ok (.nx ρ') τ' ∧ Inv ds.length ρ' τ' := by
    intro n
    induction n with
    | zero =>
      intro k ρ τ h1 h2 h3
      have e : k = ds.length := by omega
      subst e
      rw [List.drop_length]
      exact ⟨ρ, τ, rfl, h3⟩
    | succ n ih =>
      intro k ρ τ h1 h2 h3
      have hk : k < ds.length := by omega
      obtain ⟨ρ1, e1, ρ2, τ2, e2, h4⟩ := hs k ds[k] ρ τ (List.getElem?_eq_getElem hk) h3
      rw [List.drop_eq_getElem_cons hk, forL_cons e1]
      obtain ⟨ρ', τ', e3, h5⟩ := ih (k + 1) ρ2 τ2 (by omega) hk h4
      rcases e2 with e2 | e2
      · rw [e2, eTurn_nx]; exact ⟨ρ', τ', e3, h5⟩
      · rw [e2, eTurn_ct]; exact ⟨ρ', τ', e3, h5⟩
  have := this ds.length 0 ρ τ rfl (Nat.zero_le _) h0
  rwa [List.drop_zero] at this
def eTp (o : Option (Option PV)) (τ : TS') (k : Int) : R DD := match o, τ with
  | some (some .tape), some t => R.of (some t) (tauAt t k)
  | _, _ => .no
@[simp] theorem ev_Tp {k : Int} : dTp i k ρ τ = eTp ρ[i]? τ k := id rfl
@[simp] theorem eTp_ok {k : Int} {T : Tau} : eTp (some (some .tape)) (some T) k = R.of (some T) (tauAt T k) := id rfl
@[simp] theorem tauAt_0 {T : Tau} : tauAt T 0 = some (.lst (T.cells.map DD.int)) := id rfl
@[simp] theorem tauAt_1 {T : Tau} : tauAt T 1 = some (.int T.at') := id rfl
@[simp] theorem tauAt_2 {T : Tau} : tauAt T 2 = some (.int T.left) := id rfl
def eTpPut (r : R DD) (i : Nat) (k : Int) (ρ : PEnv) : R Ct := stE r ρ fun d τ1 => match ρ[i]?, τ1, d with
  | some (some .tape), some t, .int n => match tauPut t k n with
    | some t' => .ok (.nx ρ) (some t')
    | none => .no
  | _, _, _ => .no
def eTpPut2 (o : Option (Option PV)) (k : Int) (ρ : PEnv) (n : Int) (T : Tau) : R Ct := match o with
  | some (some .tape) => match tauPut T k n with
    | some t' => .ok (.nx ρ) (some t')
    | none => .no
  | _ => .no
@[simp] theorem ev_TpPut {k : Int} : dTpPut i k a ρ τ = eTpPut (a ρ τ) i k ρ := id rfl
@[simp] theorem eTpPut_ok {k n : Int} {T : Tau} : eTpPut (.ok (.int n) (some T)) i k ρ = eTpPut2 ρ[i]? k ρ n T := by
  unfold eTpPut eTpPut2
  simp only [stE_ok]
  split <;> split <;> first | rfl | simp_all
@[simp] theorem eTpPut2_1 {n : Int} {T : Tau} : eTpPut2 (some (some .tape)) 1 ρ n T = .ok (.nx ρ) (some { T with at' := n }) := id rfl
@[simp] theorem eTpPut2_2 {n : Int} {T : Tau} : eTpPut2 (some (some .tape)) 2 ρ n T = .ok (.nx ρ) (some { T with left := n }) := id rfl
def eMkT (o : Option (Option PV)) (τ : TS') (i : Nat) (ρ : PEnv) : R Ct := match o, τ with
  | some (some (.scr ns)), none => .ok (.nx (ρ.set i (some .tape))) (some ⟨cells0 ns, 0, 0, []⟩)
  | _, _ => .no
@[simp] theorem ev_MkT : dMkT i j ρ τ = eMkT ρ[j]? τ i ρ := id rfl
@[simp] theorem eMkT_ok {ns : List Int} : eMkT (some (some (.scr ns))) none i ρ = .ok (.nx (ρ.set i (some .tape))) (some ⟨cells0 ns, 0, 0, []⟩) := id rfl
variable {p : DP} {ps qs : DPs} {k n m : Nat} {F : Fn} {dv as bs : List PV} {gg : List PV → List PV → List PV}
@[simp] theorem ev_pNil : dpNil ρ τ = .ok [] τ := id rfl
@[simp] theorem ev_pCons : dpCons p ps ρ τ = eCons1 (p ρ τ) ps ρ := id rfl
@[simp] theorem ev_pE : dpE a ρ τ = eMap (a ρ τ) .fr := id rfl
def ePT (o : Option (Option PV)) (τ : TS') : R PV := match o with
  | some (some .tape) => .ok .tape τ
  | some (some (.scr ns)) => .ok (.scr ns) τ
  | _ => .no
@[simp] theorem ev_pT : dpT i ρ τ = ePT ρ[i]? τ := id rfl
@[simp] theorem ePT_t : ePT (some (some .tape)) τ = .ok .tape τ := id rfl
@[simp] theorem ePT_s {ns : List Int} : ePT (some (some (.scr ns))) τ = .ok (.scr ns) τ := id rfl
def eCallN (r : R (List PV)) (k : Nat) (F : Fn) (dv : List PV) : R DD := r.bind fun as τ1 => if as.length + dv.length = k then (F (as ++ dv) τ1).nox else .no
def eCallP (r : R (List PV)) (k : Nat) (F : Fn) (dv : List PV) : R DD := r.bind fun as τ1 => if as.length + dv.length = k then F (as ++ dv) τ1 else .no
@[simp] theorem ev_CallN : dCallN k F dv ps ρ τ = eCallN (ps ρ τ) k F dv := id rfl
@[simp] theorem ev_CallP : dCallP k F dv ps ρ τ = eCallP (ps ρ τ) k F dv := id rfl
@[simp] theorem eCallN_ok : eCallN (.ok as τ) k F dv = if as.length + dv.length = k then (F (as ++ dv) τ).nox else .no := id rfl
@[simp] theorem eCallP_ok : eCallP (.ok as τ) k F dv = if as.length + dv.length = k then F (as ++ dv) τ else .no := id rfl
def eCallK1 (r : R (List PV)) (k n m : Nat) (F : Fn) (g : List PV → List PV → List PV) (b : DPs) (ρ : PEnv) : R DD := r.bind fun as τ1 => (b ρ τ1).bind fun bs τ2 => if as.length = n ∧ bs.length = m ∧ (g as bs).length = k then F (g as bs) τ2 else .no
def eCallK2 (r : R (List PV)) (k n m : Nat) (F : Fn) (g : List PV → List PV → List PV) (as : List PV) : R DD := r.bind fun bs τ2 => if as.length = n ∧ bs.length = m ∧ (g as bs).length = k then F (g as bs) τ2 else .no
def eCallKN1 (r : R (List PV)) (k n m : Nat) (F : Fn) (g : List PV → List PV → List PV) (b : DPs) (ρ : PEnv) : R DD := r.bind fun as τ1 => (b ρ τ1).bind fun bs τ2 => if as.length = n ∧ bs.length = m ∧ (g as bs).length = k then (F (g as bs) τ2).nox else .no
def eCallKN2 (r : R (List PV)) (k n m : Nat) (F : Fn) (g : List PV → List PV → List PV) (as : List PV) : R DD := r.bind fun bs τ2 => if as.length = n ∧ bs.length = m ∧ (g as bs).length = k then (F (g as bs) τ2).nox else .no
@[simp] theorem ev_CallKP : dCallKP k n m F gg ps qs ρ τ = eCallK1 (ps ρ τ) k n m F gg qs ρ := id rfl
@[simp] theorem eCallK1_ok : eCallK1 (.ok as τ) k n m F gg qs ρ = eCallK2 (qs ρ τ) k n m F gg as := id rfl
@[simp] theorem eCallK2_ok : eCallK2 (.ok bs τ) k n m F gg as = if as.length = n ∧ bs.length = m ∧ (gg as bs).length = k then F (gg as bs) τ else .no := id rfl
@[simp] theorem ev_CallKN : dCallKN k n m F gg ps qs ρ τ = eCallKN1 (ps ρ τ) k n m F gg qs ρ := id rfl
@[simp] theorem eCallKN1_ok : eCallKN1 (.ok as τ) k n m F gg qs ρ = eCallKN2 (qs ρ τ) k n m F gg as := id rfl
@[simp] theorem eCallKN2_ok : eCallKN2 (.ok bs τ) k n m F gg as = if as.length = n ∧ bs.length = m ∧ (gg as bs).length = k then (F (gg as bs) τ).nox else .no := id rfl
def eBody (r : R Ct) (τ : TS') : R DD := match r with
  | .ok (.rt d) τ' => .ok d (fixT τ τ')
  | .ok (.nx _) τ' => .ok .non (fixT τ τ')
  | .ok (.xc x _) τ' => .ex x (fixT τ τ')
  | _ => .no
theorem ev_body : bodyF n δ as τ = eBody (δ (startP n as) τ) τ := id rfl
@[simp] theorem eBody_rt {τ' : TS'} : eBody (.ok (.rt d) τ') τ = .ok d (fixT τ τ') := id rfl
@[simp] theorem eBody_nx {τ' : TS'} : eBody (.ok (.nx ρ) τ') τ = .ok .non (fixT τ τ') := id rfl
@[simp] theorem eBody_xc {x : Ex} {τ' : TS'} : eBody (.ok (.xc x ρ) τ') τ = .ex x (fixT τ τ') := id rfl
@[simp] theorem fixT_some {t : Tau} {τ' : TS'} : fixT (some t) τ' = τ' := id rfl
@[simp] theorem fixT_none {τ' : TS'} : fixT none τ' = none := id rfl
def eRaise (r : R (List DD)) (cls : Str) (names : List Str) (ρ : PEnv) : R Ct := stE r ρ fun ds τ1 => if ds.length = names.length ∧ ds.length ≤ 1000 then .ok (.xc ⟨cls, (names.zip ds).reverse⟩ ρ) τ1 else .no
variable {cls : Str} {names : List Str}
@[simp] theorem ev_Raise : dRaise cls names r ρ τ = eRaise (r ρ τ) cls names ρ := id rfl
@[simp] theorem eRaise_ok : eRaise (.ok xs τ) cls names ρ = if xs.length = names.length ∧ xs.length ≤ 1000 then .ok (.xc ⟨cls, (names.zip xs).reverse⟩ ρ) τ else .no := id rfl
end
section
variable {ρ : PEnv} {τ : TS'} {a b c d : DE} {x y z : DD} {i j l k n m : Nat} {r : DA} {φ : PEnv → TS' → R OC} {F : FnO} {dv as bs : List PV} {ps qs : DPs} {gg : List PV → List PV → List PV} {xs : List DD} {C : OC} {δ : DS}
def eTd (o : Option (Option PV)) (τ : TS') (k : Pk) : R DD := match o, τ with
  | some (some .tape), some t => .ok (tauGet t k) (some t)
  | _, _ => .no
@[simp] theorem ev_Td {k : Pk} : dTd i k ρ τ = eTd ρ[i]? τ k := id rfl
@[simp] theorem eTd_ok {k : Pk} {T : Tau} : eTd (some (some .tape)) (some T) k = .ok (tauGet T k) (some T) := id rfl
@[simp] theorem tauGet_c {T : Tau} : tauGet T .cells = .lst (T.cells.map DD.int) := id rfl
@[simp] theorem tauGet_a {T : Tau} : tauGet T .at' = .int T.at' := id rfl
@[simp] theorem tauGet_l {T : Tau} : tauGet T .left = .int T.left := id rfl
def eTdPut (r : R DD) (i : Nat) (k : Pk) (ρ : PEnv) : R Ct := stE r ρ fun d τ1 => match ρ[i]?, τ1, d with
  | some (some .tape), some t, .int n => match tauSet t k n with
    | some t' => .ok (.nx ρ) (some t')
    | none => .no
  | _, _, _ => .no
def eTdPut2 (o : Option (Option PV)) (k : Pk) (ρ : PEnv) (n : Int) (T : Tau) : R Ct := match o with
  | some (some .tape) => match tauSet T k n with
    | some t' => .ok (.nx ρ) (some t')
    | none => .no
  | _ => .no
@[simp] theorem ev_TdPut {k : Pk} : dTdPut i k a ρ τ = eTdPut (a ρ τ) i k ρ := id rfl
@[simp] theorem eTdPut_ok {k : Pk} {n : Int} {T : Tau} : eTdPut (.ok (.int n) (some T)) i k ρ = eTdPut2 ρ[i]? k ρ n T := by
  unfold eTdPut eTdPut2
  simp only [stE_ok]
  split <;> split <;> first | rfl | simp_all
@[simp] theorem eTdPut2_a {n : Int} {T : Tau} : eTdPut2 (some (some .tape)) .at' ρ n T = .ok (.nx ρ) (some { T with at' := n }) := id rfl
@[simp] theorem eTdPut2_l {n : Int} {T : Tau} : eTdPut2 (some (some .tape)) .left ρ n T = .ok (.nx ρ) (some { T with left := n }) := id rfl
@[simp] theorem gRgL1_eq {n : Int} : gRgL1 (.int n) = if rgOk 0 n then some (.lst (rangeD 0 (n - 0).toNat)) else none := id rfl
@[simp] theorem eSeq_ro : eSeq (.ok (.ro C) τ) δ = .ok (.ro C) τ := id rfl
@[simp] theorem eTurn_ro {t : Tg} : eTurn (.ok (.ro C) τ) t δ xs = .ok (.ro C) τ := id rfl
def eCallON (r : R (List PV)) (k : Nat) (F : FnO) (dv : List PV) : R OC := r.bind fun as τ1 => if as.length + dv.length = k then (F (as ++ dv) τ1).nox else .no
def eCallOP (r : R (List PV)) (k : Nat) (F : FnO) (dv : List PV) : R OC := r.bind fun as τ1 => if as.length + dv.length = k then F (as ++ dv) τ1 else .no
@[simp] theorem ev_CallON : dCallON k F dv ps ρ τ = eCallON (ps ρ τ) k F dv := id rfl
@[simp] theorem ev_CallOP : dCallOP k F dv ps ρ τ = eCallOP (ps ρ τ) k F dv := id rfl
@[simp] theorem eCallON_ok : eCallON (.ok as τ) k F dv = if as.length + dv.length = k then (F (as ++ dv) τ).nox else .no := id rfl
@[simp] theorem eCallOP_ok : eCallOP (.ok as τ) k F dv = if as.length + dv.length = k then F (as ++ dv) τ else .no := id rfl
def eCallKON1 (r : R (List PV)) (k n m : Nat) (F : FnO) (g : List PV → List PV → List PV) (b : DPs) (ρ : PEnv) : R OC := r.bind fun as τ1 => (b ρ τ1).bind fun bs τ2 => if as.length = n ∧ bs.length = m ∧ (g as bs).length = k then (F (g as bs) τ2).nox else .no
def eCallKON2 (r : R (List PV)) (k n m : Nat) (F : FnO) (g : List PV → List PV → List PV) (as : List PV) : R OC := r.bind fun bs τ2 => if as.length = n ∧ bs.length = m ∧ (g as bs).length = k then (F (g as bs) τ2).nox else .no
@[simp] theorem ev_CallKON : dCallKON k n m F gg ps qs ρ τ = eCallKON1 (ps ρ τ) k n m F gg qs ρ := id rfl
@[simp] theorem eCallKON1_ok : eCallKON1 (.ok as τ) k n m F gg qs ρ = eCallKON2 (qs ρ τ) k n m F gg as := id rfl
@[simp] theorem eCallKON2_ok : eCallKON2 (.ok bs τ) k n m F gg as = if as.length = n ∧ bs.length = m ∧ (gg as bs).length = k then (F (gg as bs) τ).nox else .no := id rfl
@[simp] theorem ev_Fz : dFz φ ρ τ = eMap (φ ρ τ) ocD := id rfl
def ePar3 (r : R (List DD)) (i j l : Nat) (ρ : PEnv) : R Ct := stE r ρ fun ds τ1 => match ds with
  | [d, e, f] => .ok (.nx (((ρ.set i (some (.fr d))).set j (some (.fr e))).set l (some (.fr f)))) τ1
  | _ => .no
@[simp] theorem ev_Par3 : dPar3 i j l r ρ τ = ePar3 (r ρ τ) i j l ρ := id rfl
@[simp] theorem ePar3_ok : ePar3 (.ok [x, y, z] τ) i j l ρ = .ok (.nx (((ρ.set i (some (.fr x))).set j (some (.fr y))).set l (some (.fr z)))) τ := id rfl
def ePar3O (r : R OC) (i j l : Nat) (b c : DE) (ρ : PEnv) : R Ct := stE r ρ fun x τ1 => stE (b ρ τ1) ρ fun y τ2 => stE (c ρ τ2) ρ fun z τ3 => .ok (.nx (((ρ.set i (some (.ow x))).set j (some (.fr y))).set l (some (.fr z)))) τ3
def ePar3O2 (r : R DD) (i j l : Nat) (x : OC) (c : DE) (ρ : PEnv) : R Ct := stE r ρ fun y τ2 => stE (c ρ τ2) ρ fun z τ3 => .ok (.nx (((ρ.set i (some (.ow x))).set j (some (.fr y))).set l (some (.fr z)))) τ3
def ePar3O3 (r : R DD) (i j l : Nat) (x : OC) (y : DD) (ρ : PEnv) : R Ct := stE r ρ fun z τ3 => .ok (.nx (((ρ.set i (some (.ow x))).set j (some (.fr y))).set l (some (.fr z)))) τ3
@[simp] theorem ev_Par3O : dPar3O i j l φ b c ρ τ = ePar3O (φ ρ τ) i j l b c ρ := id rfl
@[simp] theorem ePar3O_ok : ePar3O (.ok C τ) i j l b c ρ = ePar3O2 (b ρ τ) i j l C c ρ := id rfl
@[simp] theorem ePar3O2_ok : ePar3O2 (.ok y τ) i j l C c ρ = ePar3O3 (c ρ τ) i j l C y ρ := id rfl
@[simp] theorem ePar3O3_ok : ePar3O3 (.ok z τ) i j l C y ρ = .ok (.nx (((ρ.set i (some (.ow C))).set j (some (.fr y))).set l (some (.fr z)))) τ := id rfl
def eBodyO (r : R Ct) (τ : TS') : R OC := match r with
  | .ok (.ro c) τ' => .ok c (fixT τ τ')
  | .ok (.xc x _) τ' => .ex x (fixT τ τ')
  | _ => .no
@[simp] theorem eBodyO_ro {τ' : TS'} : eBodyO (.ok (.ro C) τ') τ = .ok C (fixT τ τ') := id rfl
end
structure Tn (n : Nat) (t : Tau) : Prop where
  a0 : 0 ≤ t.at'
  a1 : t.at' ≤ n
  l0 : 0 ≤ t.left
theorem Tn.mono {n m : Nat} {t : Tau} (h : Tn n t) (e : n ≤ m) : Tn m t := ⟨h.a0, by have := h.a1; omega, h.l0⟩
@[simp] theorem toPys_ints : ∀ ns : List Int, toPys (ns.map DD.int) = some (ns.map PyData.int)
  | [] => by rw [List.map_nil, toPys] <;> rfl
  | n :: ns => by rw [List.map_cons, toPys, toPys_ints ns, toPy]; rfl
@[simp] theorem toPys_strs : ∀ ns : List Str, toPys (ns.map DD.str) = some (ns.map PyData.str)
  | [] => by rw [List.map_nil, toPys] <;> rfl
  | n :: ns => by rw [List.map_cons, toPys, toPys_strs ns, toPy]; rfl
theorem py2_eqs {g : PyData → PyData → Option DD} {a b : DD} {p q : PyData} (h1 : toPy a = some p) (h2 : toPy b = some q) (h3 : SeqAt.shaped p = true) (h4 : SeqAt.shaped q = true) : py2 g a b = g p q := by
  unfold py2
  rw [h1, h2]
  simp only
  rw [if_pos ⟨h3, h4⟩]
theorem toPy_ints (ns : List Int) : toPy (.lst (ns.map DD.int)) = some (.list (ns.map PyData.int)) := by rw [toPy, toPys_ints]; rfl
theorem toPy_nil : toPy (.lst []) = some (.list []) := by rw [toPy, toPys]; rfl
@[simp] theorem ne_nil_ints (ns : List Int) : gNeD (.lst (ns.map DD.int)) (.lst []) = some (.bl (!ns.isEmpty)) := by
  show py2 _ _ _ = _
  rw [py2_eqs (toPy_ints ns) toPy_nil (shaped_ints ns) rfl, eqv_nil, List.isEmpty_map]
end Np
namespace Np
open PySem PySem.Spec PyProof.Rows L2
@[simp] theorem fixT_self {τ : TS'} : fixT τ τ = τ := by cases τ <;> rfl
theorem atI_intsD {ns : List Int} {i : Int} (h0 : 0 ≤ i) (h1 : i < ns.length) : ∃ v, atI (ns.map DD.int) i = some (.int v) := by
  obtain ⟨j, rfl⟩ := Int.eq_ofNat_of_zero_le h0
  have hj : j < ns.length := by omega
  exact ⟨ns[j], atI_nat (by rw [List.getElem?_map, List.getElem?_eq_getElem hj] <;> rfl)⟩
theorem rangeD_map (lo : Int) (n : Nat) : rangeD lo n = ((List.range n).map fun (i : Nat) => lo + i).map DD.int := by
  unfold rangeD
  rw [List.map_map]
  rfl
@[simp] theorem rangeD_len (lo : Int) (n : Nat) : (rangeD lo n).length = n := rangeD_length lo n
theorem rangeD_get {lo : Int} {n k : Nat} {d : DD} (h : (rangeD lo n)[k]? = some d) : k < n ∧ d = .int (lo + k) := by
  have hk : k < n := by have := (List.getElem?_eq_some_iff.mp h).1; rwa [rangeD_length] at this
  unfold rangeD at h
  rw [List.getElem?_map, List.getElem?_range hk] at h
  cases h
  exact ⟨hk, rfl⟩
/-- a comprehension with draws: what holds of each, by the turn -/
theorem lcL_draw {t : Tg} {a : DE} {ρ : PEnv} (Pv : DD → Prop) (Inv : Nat → TS' → Prop) : ∀ (ds : List DD) (k : Nat) (τ : TS'), Inv k τ →
    (∀ j d τ, j < k + ds.length → d ∈ ds → Inv j τ → ∃ ρ1, tgF t d ρ = some ρ1 ∧ ∃ y τ', a ρ1 τ = .ok y τ' ∧ Pv y ∧ Inv (j + 1) τ') →
    ∃ ys τ', lcL t dYes a ρ ds τ = .ok ys τ' ∧ ys.length = ds.length ∧ (∀ y ∈ ys, Pv y) ∧ Inv (k + ds.length) τ'
  | [], k, τ, h, _ => ⟨[], τ, rfl, rfl, (fun _ h => by cases h), h⟩
  | d :: ds, k, τ, h, hs => by
    obtain ⟨ρ1, h1, y, τ', h2, h3, h4⟩ := hs k d τ (by rw [List.length_cons]; omega) List.mem_cons_self h
    obtain ⟨ys, τ2, e, l, q, i⟩ := lcL_draw Pv Inv ds (k + 1) τ' h4 fun j d τ hj hd => hs j d τ (by rw [List.length_cons]; omega) (List.mem_cons_of_mem _ hd)
    refine ⟨y :: ys, τ2, ?_, by rw [List.length_cons, l]; rfl, fun z hz => ?_, by rw [List.length_cons, show k + (ds.length + 1) = k + 1 + ds.length by omega]; exact i⟩
    · rw [lcL, h1]
      simp only [ev_Yes, R.nox_ok, R.bind_ok, if_true, h2, e]
    · rcases List.mem_cons.mp hz with rfl | hz
      · exact h3
      · exact q z hz
end Np
namespace Np
open PySem PySem.Spec PyProof.Rows L2
section
variable {t : Tg} {a : DE} {ρ ρ1 : PEnv} {τ : TS'} {d y : DD} {ds ys : List DD} {A : DT}
@[simp] theorem lcL_nil : lcL t A a ρ [] τ = .ok [] τ := id rfl
def eLy1 (o : Option PEnv) (t : Tg) (a : DE) (ρ : PEnv) (ds : List DD) (τ : TS') : R (List DD) := match o with
  | some ρ1 => (a ρ1 τ).nox.bind fun y τ2 => (lcL t dYes a ρ ds τ2).bind fun ys τ3 => .ok (y :: ys) τ3
  | none => .no
def eLy2 (r : R DD) (t : Tg) (a : DE) (ρ : PEnv) (ds : List DD) : R (List DD) := r.nox.bind fun y τ2 => (lcL t dYes a ρ ds τ2).bind fun ys τ3 => .ok (y :: ys) τ3
@[simp] theorem eLy1_ok : eLy1 (some ρ1) t a ρ ds τ = eLy2 (a ρ1 τ) t a ρ ds := id rfl
@[simp] theorem eLy2_ok : eLy2 (.ok y τ) t a ρ ds = eCons2 (lcL t dYes a ρ ds τ) y := id rfl
end
end Np
namespace Np
open PySem PySem.Spec PyProof.Rows L2
theorem rangeD_get0 {n k : Nat} {d : DD} (h : (rangeD 0 n)[k]? = some d) : k < n ∧ d = .int k := by
  obtain ⟨a, b⟩ := rangeD_get h
  rw [Int.zero_add] at b
  exact ⟨a, b⟩
end Np
namespace Np
open PySem PySem.Spec PyProof.Rows L2
theorem cutL_from {α : Type} {xs : List α} {a : Int} (h0 : 0 ≤ a) : cutL xs (some a) none = xs.drop a.toNat := by
  unfold cutL HT.sIx
  simp only
  rw [if_neg (by omega)]
  by_cases h : a.toNat ≤ xs.length
  · rw [Nat.min_eq_left h, List.take_of_length_le (by rw [List.length_drop]; omega)]
  · rw [Nat.min_eq_right (by omega), List.drop_length, List.drop_eq_nil_of_le (by omega)]
    simp
theorem cutL_to {α : Type} {xs : List α} {b : Int} (h0 : 0 ≤ b) : cutL xs none (some b) = xs.take b.toNat := by
  unfold cutL HT.sIx
  simp only
  rw [if_neg (by omega), List.drop_zero, Nat.sub_zero]
  by_cases h : b.toNat ≤ xs.length
  · rw [Nat.min_eq_left h]
  · rw [Nat.min_eq_right (by omega), List.take_length, List.take_of_length_le (by omega)]
end Np
set_option Elab.async false
set_option linter.all false
set_option maxRecDepth 100000
set_option maxHeartbeats 4000000
namespace Np
open PySem PySem.Spec PyProof.Rows L2
def Rb (n k : Nat) (d : DD) : Prop := ∃ p, toPy d = some p ∧ PyData.canLay0 p = true ∧ PyData.depth p ≤ k ∧ PyData.showable p = true ∧ PyData.leavesShort 60 p = true ∧ PyData.bulk p ≤ n
def RbA (n k : Nat) (ds : List DD) : Prop := ∃ ps, toPys ds = some ps ∧ PyData.canLayAll0 ps = true ∧ PyData.depthAll ps ≤ k ∧ PyData.showableAll ps = true ∧ PyData.leavesShortAll 60 ps = true ∧ PyData.bulkAll ps ≤ n
theorem Rb.mono {n k m j : Nat} {d : DD} (h : Rb n k d) (h1 : n ≤ m) (h2 : k ≤ j) : Rb m j d := by
  obtain ⟨p, a, b, c, e, f, g⟩ := h
  exact ⟨p, a, b, Nat.le_trans c h2, e, f, Nat.le_trans g h1⟩
theorem Rb.big {i : Int} (h : i.natAbs < 10 ^ 50) : Rb 0 0 (.int i) := by
  refine ⟨.int i, by rw [toPy], rfl, Nat.le_refl _, ?_, ?_, Nat.le_refl _⟩
  · simp only [PyData.showable, decide_eq_true_eq]
    by_cases h0 : i.natAbs = 0
    · rw [h0]; decide
    · have := (Nat.log2_lt h0 (k := 200)).mpr (Nat.lt_of_lt_of_le h (by decide))
      omega
  · simp only [PyData.leavesShort, decide_eq_true_eq]
    have := (Tx.num (k := 50) (by decide) h).len
    exact Nat.le_trans this (by decide)
theorem Rb.int {i : Int} (h : i.natAbs < 10 ^ 12) : Rb 0 0 (.int i) := Rb.big (Nat.lt_trans h (by decide))
theorem Rb.str {x : Str} {n : Nat} (h : Tx n x) : Rb n 0 (.str x) := by
  refine ⟨.str x, by rw [toPy], h.strOk, Nat.le_refl _, rfl, ?_, h.len⟩
  simp only [PyData.leavesShort, List.all_eq_true, decide_eq_true_eq]
  intro c hc
  have := h.ok c hc
  omega
theorem Rb.bl {b : Bool} : Rb 0 0 (.bl b) := ⟨.bool b, by rw [toPy], rfl, Nat.le_refl _, rfl, rfl, Nat.le_refl _⟩
theorem Rb.non : Rb 0 0 .non := ⟨.none, by rw [toPy], rfl, Nat.le_refl _, rfl, rfl, Nat.le_refl _⟩
theorem RbA.nil : RbA 0 0 [] := ⟨[], by rw [toPys], rfl, Nat.le_refl _, rfl, rfl, Nat.le_refl _⟩
theorem RbA.cons {n m k : Nat} {d : DD} {ds : List DD} (h : Rb n k d) (hs : RbA m k ds) : RbA (n + 1 + m) k (d :: ds) := by
  obtain ⟨p, a, b, c, e, f, g⟩ := h
  obtain ⟨ps, a', b', c', e', f', g'⟩ := hs
  refine ⟨p :: ps, by rw [toPys, a, a'], ?_, ?_, ?_, ?_, ?_⟩
  · show (PyData.canLay0 p && PyData.canLayAll0 ps) = true
    rw [b, b']; rfl
  · show max (PyData.depth p) (PyData.depthAll ps) ≤ k
    omega
  · show (PyData.showable p && PyData.showableAll ps) = true
    rw [e, e']; rfl
  · show (PyData.leavesShort 60 p && PyData.leavesShortAll 60 ps) = true
    rw [f, f']; rfl
  · show PyData.bulk p + 1 + PyData.bulkAll ps ≤ _
    omega
theorem RbA.all {n k : Nat} : ∀ {ds : List DD}, (∀ d ∈ ds, Rb n k d) → RbA ((n + 1) * ds.length) k ds
  | [], _ => by
    obtain ⟨ps, a, b, c, r⟩ := RbA.nil
    exact ⟨ps, a, b, Nat.le_trans c (Nat.zero_le _), r⟩
  | d :: ds, h => by
    have := (h d List.mem_cons_self).mono (Nat.le_refl n) (Nat.le_refl k)
    have ih := RbA.all (n := n) (k := k) (ds := ds) fun x hx => h x (List.mem_cons_of_mem _ hx)
    have r := RbA.cons this ih
    rw [List.length_cons, Nat.mul_succ, Nat.add_comm]
    exact r
theorem Rb.lst {n k : Nat} {ds : List DD} (h : RbA n k ds) : Rb n (k + 1) (.lst ds) := by
  obtain ⟨ps, a, b, c, e, f, g⟩ := h
  exact ⟨.list ps, by rw [toPy, a]; rfl, b, Nat.succ_le_succ c, e, f, g⟩
theorem Rb.tup {n k : Nat} {ds : List DD} (h : RbA n k ds) : Rb n (k + 1) (.tup ds) := by
  obtain ⟨ps, a, b, c, e, f, g⟩ := h
  exact ⟨.tuple ps, by rw [toPy, a]; rfl, b, Nat.succ_le_succ c, e, f, g⟩
theorem fits60 {d : PyData} (hl : d.leavesShort 60 = true) (hw : d.bulk ≤ 2 ^ 17) : d.shown.length ≤ sizeLine := by
  have h := PyData.shown_le_bulk 60 (by decide) d hl
  have e : (2 : Nat) ^ 17 = 131072 := by decide
  have h2 : (60 + 2) * d.bulk ≤ 62 * 131072 := Nat.mul_le_mul (Nat.le_refl _) (by omega)
  rw [sizeLine_eq]
  omega
theorem gRepr_ok {n k : Nat} {d : DD} {l : List DD} (h : Rb n k d) (hi : items? d = some l) (hn : n ≤ 2 ^ 17) (hk : k ≤ 64) : ∃ x, gRepr d = some (.str x) := by
  obtain ⟨p, a, b, c, e, f, g⟩ := h
  refine ⟨p.shown, ?_⟩
  unfold gRepr
  rw [a, hi]
  have sh : SeqAt.shaped p = true := by
    unfold SeqAt.shaped
    rw [b, decide_eq_true (Nat.le_trans c hk)] <;> rfl
  simp only
  rw [if_pos ⟨e, sh, fits60 f (Nat.le_trans g hn)⟩]
theorem Rb.shaped {n k : Nat} {d : DD} (h : Rb n k d) (hk : k ≤ 64) : ∃ p, toPy d = some p ∧ SeqAt.shaped p = true := by
  obtain ⟨p, a, b, c, _⟩ := h
  refine ⟨p, a, ?_⟩
  unfold SeqAt.shaped
  rw [b, decide_eq_true (Nat.le_trans c hk)] <;> rfl
mutual
def plainD : DD → Bool
  | .non => true
  | .int _ => true
  | .str _ => true
  | .lst ds => plainDs ds
  | .tup ds => plainDs ds
  | _ => false
def plainDs : List DD → Bool
  | [] => true
  | d :: ds => plainD d && plainDs ds
end
end Np
namespace Np
open PySem PySem.Spec PyProof.Rows L2
@[simp] theorem eq_nil_ints (ns : List Int) : gEqD (.lst (ns.map DD.int)) (.lst []) = some (.bl ns.isEmpty) := by
  show py2 _ _ _ = _
  rw [py2_eqs (toPy_ints ns) toPy_nil (shaped_ints ns) rfl, eqv_nil, List.isEmpty_map]
end Np
set_option Elab.async false
set_option linter.all false
set_option maxRecDepth 100000
set_option maxHeartbeats 4000000
namespace Np
open PySem L2 PySem.StrLaws Builtin Builtin.Str
def eAsgL (r : R DD) (ts : List Tg) (ρ : PEnv) : R Ct := stE r ρ fun d τ1 => match d with
  | .lst ds => match tgFs ts ds ρ with
    | some ρ1 => .ok (.nx ρ1) τ1
    | none => .no
  | _ => .no
@[simp] theorem ev_AsgL {a : DE} {ts : List Tg} {ρ : PEnv} {τ : TS'} : dAsgL a ts ρ τ = eAsgL (a ρ τ) ts ρ := id rfl
@[simp] theorem eAsgL_3 {ρ : PEnv} {τ : TS'} {i j k : Nat} {x y z : DD} : eAsgL (.ok (.lst [x, y, z]) τ) [.nm i, .nm j, .nm k] ρ = .ok (.nx (((ρ.set i (some (.fr x))).set j (some (.fr y))).set k (some (.fr z)))) τ := by
  simp [eAsgL, tgFs, tgF, stE]
end Np
set_option Elab.async false
set_option linter.all false
set_option maxRecDepth 100000
set_option maxHeartbeats 4000000
namespace Np
open PySem L2
def S (l : List Nat) : PySem.Str := ⟨l.toArray⟩
theorem S_of (x : PySem.Str) : x = S x.cps.toList := by cases x; simp [S]
@[simp] theorem S_l (l : List Nat) : (S l).cps.toList = l := by simp [S]
@[simp] theorem S_n (l : List Nat) : (S l).length = l.length := by show l.toArray.size = _; simp
@[simp] theorem S_cat (a b : List Nat) : S a ++ S b = S (a ++ b) := by show Str.mk (a.toArray ++ b.toArray) = _; simp [S]
@[simp] theorem S_inj {a b : List Nat} : S a = S b ↔ a = b := ⟨fun h => by have := congrArg (fun z => z.cps.toList) h; simpa using this, fun h => by rw [h]⟩
@[simp] theorem S_cut (l : List Nat) (lo hi : Option Int) : cutS (S l) lo hi = S (cutL l lo hi) := by
  unfold cutS cutL
  rw [S_l, S_n]
  rfl
@[simp] theorem S_rev (l : List Nat) : revS (S l) = S l.reverse := by unfold revS; simp [S]
@[simp] theorem S_signs (l : List Nat) : signs (S l) = l.map fun c => DD.str (S [c]) := by unfold signs; rw [S_l]; rfl
theorem S_one (c : Nat) : (⟨#[c]⟩ : PySem.Str) = S [c] := rfl
def joinL (s : List Nat) : List (List Nat) → List Nat
  | [] => []
  | [x] => x
  | x :: y :: r => x ++ s ++ joinL s (y :: r)
theorem join_l (s : PySem.Str) : ∀ ps : List PySem.Str, (Str.join s ps).cps.toList = joinL s.cps.toList (ps.map fun z => z.cps.toList)
  | [] => rfl
  | [x] => rfl
  | x :: y :: r => by
    show (x ++ s ++ Str.join s (y :: r)).cps.toList = _
    rw [show ∀ a b : PySem.Str, (a ++ b).cps.toList = a.cps.toList ++ b.cps.toList from fun a b => by show (a.cps ++ b.cps).toList = _; simp]
    rw [show ∀ a b : PySem.Str, (a ++ b).cps.toList = a.cps.toList ++ b.cps.toList from fun a b => by show (a.cps ++ b.cps).toList = _; simp, join_l s (y :: r)]
    rfl
theorem joinT_S (s : List Nat) (ps : List (List Nat)) : Txt.join (S s) (ps.map S) = S (joinL s ps) := by
  have e : Txt.join (S s) (ps.map S) = Str.join (S s) (ps.map S) := StrLaws.glued_eq_join _ _
  rw [e, S_of (Str.join _ _), join_l, List.map_map]
  congr 1
  rw [S_l]
  congr 1
  conv => rhs; rw [← List.map_id ps]
  exact List.map_congr_left fun z _ => S_l z
theorem joinL_nil : ∀ ps : List (List Nat), joinL [] ps = ps.flatten
  | [] => rfl
  | [x] => by simp [joinL]
  | x :: y :: r => by rw [joinL, joinL_nil (y :: r)]; simp
section
variable {t : Tg} {a : DE} {A : DT} {ρ : PEnv} {τ : TS'} {α : Type}
theorem lcL_mapOf {mk f : α → DD} : ∀ {xs : List α}, (∀ x ∈ xs, ∃ ρ1, tgF t (mk x) ρ = some ρ1 ∧ a ρ1 τ = .ok (f x) τ) → lcL t dYes a ρ (xs.map mk) τ = .ok (xs.map f) τ
  | [], _ => rfl
  | x :: xs, h => by
    obtain ⟨ρ1, h1, h2⟩ := h x List.mem_cons_self
    rw [List.map_cons, lcL, h1]
    simp only [ev_Yes, R.nox_ok, R.bind_ok, if_true, h2]
    rw [lcL_mapOf fun d hd => h d (List.mem_cons_of_mem _ hd)] <;> rfl
@[simp] theorem bls?_mapf {f : α → Bool} (xs : List α) : bls? (xs.map fun x => DD.bl (f x)) = some (xs.map f) := by
  rw [← bls?_map, List.map_map]; rfl
@[simp] theorem ints?_mapf {f : α → Int} (xs : List α) : ints? (xs.map fun x => DD.int (f x)) = some (xs.map f) := by
  rw [← ints?_map, List.map_map]; rfl
@[simp] theorem strs?_mapf {f : α → PySem.Str} (xs : List α) : strs? (xs.map fun x => DD.str (f x)) = some (xs.map f) := by
  rw [← strs?_map, List.map_map]; rfl
end
@[simp] theorem atI_0 {α : Type} {x : α} {xs : List α} : atI (x :: xs) 0 = some x := by
  have : atI (x :: xs) ((0 : Nat) : Int) = some x := atI_nat rfl
  exact this
@[simp] theorem atI_1 {α : Type} {x y : α} {xs : List α} : atI (x :: y :: xs) 1 = some y := by
  have : atI (x :: y :: xs) ((1 : Nat) : Int) = some y := atI_nat rfl
  exact this
@[simp] theorem atI_2 {α : Type} {x y z : α} {xs : List α} : atI (x :: y :: z :: xs) 2 = some z := by
  have : atI (x :: y :: z :: xs) ((2 : Nat) : Int) = some z := atI_nat rfl
  exact this
@[simp] theorem atI_3 {α : Type} {x y z w : α} {xs : List α} : atI (x :: y :: z :: w :: xs) 3 = some w := by
  have : atI (x :: y :: z :: w :: xs) ((3 : Nat) : Int) = some w := atI_nat rfl
  exact this
@[simp] theorem atI_4 {α : Type} {x y z w u : α} {xs : List α} : atI (x :: y :: z :: w :: u :: xs) 4 = some u := by
  have : atI (x :: y :: z :: w :: u :: xs) ((4 : Nat) : Int) = some u := atI_nat rfl
  exact this
/-- right code points -/
def Cp (l : List Nat) : Prop := ∀ c ∈ l, c < 1114112
theorem Tx.of {n : Nat} {l : List Nat} (h : Tx n (Np.S l)) : l.length ≤ n ∧ Cp l := ⟨by have := h.len; rwa [S_n] at this, by have := h.ok; rwa [S_l] at this⟩
theorem Cp.sub {l m : List Nat} (h : Cp m) (s : ∀ c ∈ l, c ∈ m) : Cp l := fun c hc => h c (s c hc)
theorem Cp.app {l m : List Nat} (h : Cp l) (k : Cp m) : Cp (l ++ m) := fun c hc => (List.mem_append.mp hc).elim (h c) (k c)
theorem Cp.take {l : List Nat} (h : Cp l) (n : Nat) : Cp (l.take n) := h.sub fun _ hc => List.mem_of_mem_take hc
theorem Cp.drop {l : List Nat} (h : Cp l) (n : Nat) : Cp (l.drop n) := h.sub fun _ hc => List.mem_of_mem_drop hc
theorem Cp.rev {l : List Nat} (h : Cp l) : Cp l.reverse := h.sub fun _ hc => by simpa using hc
theorem Cp.cons {l : List Nat} {c : Nat} (hc : c < 1114112) (h : Cp l) : Cp (c :: l) := fun x hx => by
  rcases List.mem_cons.mp hx with rfl | hx
  · exact hc
  · exact h x hx
theorem Cp.nil : Cp [] := fun x hx => by cases hx
theorem all_signs {ys : List DD} {P : Nat → Prop} (h : ∀ y ∈ ys, ∃ c, y = .str (S [c]) ∧ P c) : ∃ cs : List Nat, ys = cs.map (fun c => DD.str (S [c])) ∧ ∀ c ∈ cs, P c := by
  induction ys with
  | nil => exact ⟨[], rfl, fun c hc => by cases hc⟩
  | cons y ys ih =>
    obtain ⟨cs, e, q⟩ := ih fun y hy => h y (List.mem_cons_of_mem _ hy)
    obtain ⟨c, e2, q2⟩ := h y List.mem_cons_self
    refine ⟨c :: cs, by rw [e, e2]; rfl, fun x hx => ?_⟩
    rcases List.mem_cons.mp hx with rfl | hx
    · exact q2
    · exact q x hx
theorem flatten_ones : ∀ cs : List Nat, (cs.map fun c => [c]).flatten = cs
  | [] => rfl
  | c :: cs => by simp [flatten_ones cs]
theorem join_gen {s : List Nat} {ps : List (List Nat)} (h : (ps.map (·.length)).sum + ps.length * s.length ≤ 16777216) : gJoin (S s) [.lst (ps.map fun p => DD.str (S p))] = some (.str (S (joinL s ps))) := by
  have e := joinT_S s ps
  have e2 : (ps.map fun p => DD.str (S p)) = (ps.map S).map DD.str := by rw [List.map_map]; rfl
  unfold gJoin
  rw [e2]
  simp only [items?, Option.bind_some, strs?_map]
  rw [e, if_pos]
  rw [List.map_map, List.length_map, S_n, show ((fun x : PySem.Str => x.length) ∘ S) = (fun x => x.length) from funext fun x => S_n x]
  exact h
theorem sum_ones {α : Type} (cs : List α) : (cs.map fun _ => 1).sum = cs.length := by
  induction cs with
  | nil => rfl
  | cons c cs ih => simp [ih]; omega
theorem join_signs {cs : List Nat} (h : cs.length ≤ 16777216) : gJoin (S []) [.lst (cs.map fun c => DD.str (S [c]))] = some (.str (S cs)) := by
  have := join_gen (s := []) (ps := cs.map fun c => [c]) (by
    rw [List.map_map]
    have := sum_ones cs
    simp only [Function.comp_def, List.length_cons, List.length_nil, Nat.zero_add, Nat.mul_zero, Nat.add_zero]
    rw [sum_ones]; exact h)
  rw [List.map_map, joinL_nil, flatten_ones] at this
  exact this
end Np
set_option Elab.async false
set_option linter.all false
set_option maxRecDepth 100000
set_option maxHeartbeats 4000000
namespace Np
open PySem L2
section
variable {ρ ρ1 : PEnv} {τ τ1 : TS'} {δ : DS} {a b : DE} {d : DD} {x : Ex} {C : OC} {i j : Nat} {exm kit : PySem.Str → Option Bool} {ok : PySem.Str → Bool}
def eTryK (r : R Ct) (exm : PySem.Str → Option Bool) (i j : Nat) : R Ct := match r with
  | .ok (.xc x ρ1) τ1 => match exm x.cls with
    | some true => if i < ρ1.length then .ok (.nx ((ρ1.set j (some (.fr (.exc x.cls x.fs)))).set i none)) τ1 else .no
    | some false => .ok (.xc x ρ1) τ1
    | none => .no
  | r => r
def eTx (o : Option Bool) (x : Ex) (ρ1 : PEnv) (τ1 : TS') (i j : Nat) : R Ct := match o with
  | some true => if i < ρ1.length then .ok (.nx ((ρ1.set j (some (.fr (.exc x.cls x.fs)))).set i none)) τ1 else .no
  | some false => .ok (.xc x ρ1) τ1
  | none => .no
@[simp] theorem ev_TryK : dTryK exm i j δ ρ τ = eTryK (δ ρ τ) exm i j := id rfl
@[simp] theorem eTryK_nx : eTryK (.ok (.nx ρ) τ) exm i j = .ok (.nx ρ) τ := id rfl
@[simp] theorem eTryK_rt : eTryK (.ok (.rt d) τ) exm i j = .ok (.rt d) τ := id rfl
@[simp] theorem eTryK_bk : eTryK (.ok (.bk ρ) τ) exm i j = .ok (.bk ρ) τ := id rfl
@[simp] theorem eTryK_ct : eTryK (.ok (.ct ρ) τ) exm i j = .ok (.ct ρ) τ := id rfl
@[simp] theorem eTryK_xc : eTryK (.ok (.xc x ρ) τ) exm i j = eTx (exm x.cls) x ρ τ i j := id rfl
@[simp] theorem eTx_t : eTx (some true) x ρ τ i j = if i < ρ.length then .ok (.nx ((ρ.set j (some (.fr (.exc x.cls x.fs)))).set i none)) τ else .no := id rfl
@[simp] theorem eTx_f : eTx (some false) x ρ τ i j = .ok (.xc x ρ) τ := id rfl
@[simp] theorem tb_eq {A : PySem.Str} {v : Bool} {r : PySem.Str → Option Bool} : tb A v r A = some v := if_pos rfl
def eIsX (r : R DD) (kit : PySem.Str → Option Bool) : R DD := r.bind fun x τ1 => match x with
  | .exc C _ => R.of τ1 ((kit C).map .bl)
  | _ => .no
@[simp] theorem ev_IsX : dIsX kit a ρ τ = eIsX (a ρ τ) kit := id rfl
@[simp] theorem eIsX_ok {A : PySem.Str} {fs : List (PySem.Str × DD)} : eIsX (.ok (.exc A fs) τ) kit = R.of τ ((kit A).map .bl) := id rfl
def eFx (r : R DD) (ok : PySem.Str → Bool) (f : PySem.Str) : R DD := r.bind fun x τ1 => match x with
  | .exc C fs => if ok C = true then R.of τ1 (fs.lookup f) else .no
  | _ => .no
@[simp] theorem ev_Fx {f : PySem.Str} : dFx ok f a ρ τ = eFx (a ρ τ) ok f := id rfl
@[simp] theorem eFx_ok {A f : PySem.Str} {fs : List (PySem.Str × DD)} : eFx (.ok (.exc A fs) τ) ok f = if ok A = true then R.of τ (fs.lookup f) else .no := id rfl
@[simp] theorem gIsN_x {k : Bool} {A : PySem.Str} {fs : List (PySem.Str × DD)} : gIsN k (.exc A fs) .non = some (.bl k) := id rfl
@[simp] theorem gIsN_o {k : Bool} {A : PySem.Str} {fs : List (PySem.Str × DD)} : gIsN k (.obj A fs) .non = some (.bl k) := id rfl
@[simp] theorem gIsN_d {k : Bool} {fs : List (Key × DD)} : gIsN k (.dic fs) .non = some (.bl k) := id rfl
@[simp] theorem gIsi_d {T : String} {fs : List (Key × DD)} : gIsi T (.dic fs) = some (.bl (isT T "dict")) := id rfl
theorem ev_bodyN {n : Nat} {as : List PV} : bodyN n δ as τ = (eBody (δ (startP n as) τ) τ).nox := id rfl
@[simp] theorem R.nox_ex {α : Type} {x : Ex} : (R.ex x τ : R α).nox = .no := id rfl
def eOrU (r : R DD) (b : DE) (ρ : PEnv) : R DD := r.bind fun x τ1 => (R.of τ1 (tru x)).bind fun k τ2 => if k = true then .ok x τ2 else b ρ τ2
def eAndU (r : R DD) (b : DE) (ρ : PEnv) : R DD := r.bind fun x τ1 => (R.of τ1 (tru x)).bind fun k τ2 => if k = true then b ρ τ2 else .ok x τ2
def eOrU2 (o : Option Bool) (x : DD) (b : DE) (ρ : PEnv) (τ : TS') : R DD := (R.of τ o).bind fun k τ2 => if k = true then .ok x τ2 else b ρ τ2
def eAndU2 (o : Option Bool) (x : DD) (b : DE) (ρ : PEnv) (τ : TS') : R DD := (R.of τ o).bind fun k τ2 => if k = true then b ρ τ2 else .ok x τ2
@[simp] theorem ev_OrU : dOrU a b ρ τ = eOrU (a ρ τ) b ρ := id rfl
@[simp] theorem ev_AndU : dAndU a b ρ τ = eAndU (a ρ τ) b ρ := id rfl
@[simp] theorem eOrU_ok : eOrU (.ok d τ) b ρ = eOrU2 (tru d) d b ρ τ := id rfl
@[simp] theorem eAndU_ok : eAndU (.ok d τ) b ρ = eAndU2 (tru d) d b ρ τ := id rfl
@[simp] theorem eOrU2_t : eOrU2 (some true) d b ρ τ = .ok d τ := id rfl
@[simp] theorem eOrU2_f : eOrU2 (some false) d b ρ τ = b ρ τ := id rfl
@[simp] theorem eAndU2_t : eAndU2 (some true) d b ρ τ = b ρ τ := id rfl
@[simp] theorem eAndU2_f : eAndU2 (some false) d b ρ τ = .ok d τ := id rfl
def eTrF (r : R OC) : R OC := r.bind fun c τ1 => match ocT c with
  | .nd k ts => .ok (.tr k ts) τ1
  | .fr _ => .no
@[simp] theorem ev_TrF {φ : PEnv → TS' → R OC} : dTrF φ ρ τ = eTrF (φ ρ τ) := id rfl
@[simp] theorem eTrF_l {xs : List DD} : eTrF (.ok (.lst xs) τ) = .ok (.tr .lst (xs.map .fr)) τ := id rfl
@[simp] theorem ocT_l {xs : List DD} : ocT (.lst xs) = .nd .lst (xs.map .fr) := id rfl
@[simp] theorem ocT_t {k : Kd} {ts : List OT} : ocT (.tr k ts) = .nd k ts := id rfl
def eAppT (o : Option (Option PV)) (i : Nat) (φ : PEnv → TS' → R OC) (ρ : PEnv) (τ : TS') : R Ct := match o with
  | some (some (.ow (.tr .lst ts))) => stE (φ ρ τ) ρ fun c τ1 => if ts.length < sizeLine then .ok (.nx (ρ.set i (some (.ow (.tr .lst (ts ++ [ocT c])))))) τ1 else .no
  | _ => .no
def eAppT2 (r : R OC) (i : Nat) (ts : List OT) (ρ : PEnv) : R Ct := stE r ρ fun c τ1 => if ts.length < sizeLine then .ok (.nx (ρ.set i (some (.ow (.tr .lst (ts ++ [ocT c])))))) τ1 else .no
@[simp] theorem ev_AppT {φ : PEnv → TS' → R OC} : dAppT i φ ρ τ = eAppT ρ[i]? i φ ρ τ := id rfl
@[simp] theorem eAppT_ok {φ : PEnv → TS' → R OC} {ts : List OT} : eAppT (some (some (.ow (.tr .lst ts)))) i φ ρ τ = eAppT2 (φ ρ τ) i ts ρ := id rfl
@[simp] theorem eAppT2_ok {ts : List OT} : eAppT2 (.ok C τ) i ts ρ = if ts.length < 16777216 then .ok (.nx (ρ.set i (some (.ow (.tr .lst (ts ++ [ocT C])))))) τ else .no := by
  show (if ts.length < sizeLine then _ else _) = _
  rw [sizeLine_eq]
def eAppL (o : Option (Option PV)) (i : Nat) (e : DE) (ρ : PEnv) (τ : TS') : R Ct := match o with
  | some (some (.ow (.tr .lst ts))) => stE (e ρ τ) ρ fun d τ1 => if ts.length < sizeLine then .ok (.nx (ρ.set i (some (.ow (.tr .lst (ts ++ [.fr d])))))) τ1 else .no
  | _ => .no
def eAppL2 (r : R DD) (i : Nat) (ts : List OT) (ρ : PEnv) : R Ct := stE r ρ fun d τ1 => if ts.length < sizeLine then .ok (.nx (ρ.set i (some (.ow (.tr .lst (ts ++ [.fr d])))))) τ1 else .no
@[simp] theorem ev_AppL : dAppL i a ρ τ = eAppL ρ[i]? i a ρ τ := id rfl
@[simp] theorem eAppL_ok {ts : List OT} : eAppL (some (some (.ow (.tr .lst ts)))) i a ρ τ = eAppL2 (a ρ τ) i ts ρ := id rfl
@[simp] theorem eAppL2_ok {ts : List OT} : eAppL2 (.ok d τ) i ts ρ = if ts.length < 16777216 then .ok (.nx (ρ.set i (some (.ow (.tr .lst (ts ++ [.fr d])))))) τ else .no := by
  show (if ts.length < sizeLine then _ else _) = _
  rw [sizeLine_eq]
def eAppIx (o : Option (Option PV)) (i : Nat) (k e : DE) (ρ : PEnv) (τ : TS') : R Ct := match o with
  | some (some (.ow (.tr .lst ts))) => stE (k ρ τ) ρ fun n τ1 => match n with
    | .int n => match ixN ts.length n with
      | some j => match ts[j]? with
        | some (.nd .lst us) => stE (e ρ τ1) ρ fun d τ2 => if us.length < sizeLine then .ok (.nx (ρ.set i (some (.ow (.tr .lst (ts.set j (.nd .lst (us ++ [.fr d])))))))) τ2 else .no
        | _ => .no
      | none => .no
    | _ => .no
  | _ => .no
@[simp] theorem ev_AppIx {k : DE} : dAppIx i k a ρ τ = eAppIx ρ[i]? i k a ρ τ := id rfl
@[simp] theorem ocD_t {k : Kd} {ts : List OT} : ocD (.tr k ts) = otD (.nd k ts) := id rfl
@[simp] theorem gRepl_eq {y z w : PySem.Str} : gRepl y z (.str w) = if w.length + (w.length + 1) * z.length ≤ 16777216 then some (.str (Txt.replace w y z)) else none := id rfl
@[simp] theorem pickL_nil {α : Type} {dv us ws : List α} : pickL dv [] us ws = [] := id rfl
@[simp] theorem pickL_a0 {α : Type} {dv us ws : List α} {u : α} {ix : List Ix} : pickL dv (.a 0 :: ix) (u :: us) ws = u :: pickL dv ix (u :: us) ws := id rfl
/-- lists of texts -/
def sL (ps : List (List Nat)) : List DD := ps.map fun p => .str (S p)
@[simp] theorem sL_nil : sL [] = [] := id rfl
@[simp] theorem sL_cons {p : List Nat} {ps : List (List Nat)} : sL (p :: ps) = .str (S p) :: sL ps := id rfl
@[simp] theorem sL_app {ps qs : List (List Nat)} : sL (ps ++ qs) = sL ps ++ sL qs := by unfold sL; rw [List.map_append]
@[simp] theorem sL_len {ps : List (List Nat)} : (sL ps).length = ps.length := by unfold sL; rw [List.length_map]
theorem ne_nil_rb {ds : List DD} {n k : Nat} (h : Rb n k (.lst ds)) (hk : k ≤ 64) : gNeD (.lst ds) (.lst []) = some (.bl (!ds.isEmpty)) := by
  obtain ⟨p, h1, h2⟩ := h.shaped hk
  show py2 _ _ _ = _
  rw [py2_eqs h1 toPy_nil h2 rfl]
  rw [toPy] at h1
  obtain ⟨ps, e, rfl⟩ := Option.map_eq_some_iff.mp h1
  rw [eqv_nil]
  cases ds with
  | nil => rw [toPys] at e; cases e; rfl
  | cons d ds =>
    cases ps with
    | cons q qs => rfl
    | nil =>
      rw [toPys] at e
      split at e
      · cases e
      · cases e
def Cps (ps : List (List Nat)) : Prop := ∀ p ∈ ps, Cp p
theorem Cps.app {ps qs : List (List Nat)} (h : Cps ps) (k : Cps qs) : Cps (ps ++ qs) := fun p hp => (List.mem_append.mp hp).elim (h p) (k p)
theorem Cps.nil : Cps [] := fun p hp => by cases hp
theorem Cps.one {p : List Nat} (h : Cp p) : Cps [p] := fun q hq => by rw [List.mem_singleton.mp hq]; exact h
theorem Cp.join {s : List Nat} (hs : Cp s) : ∀ {ps : List (List Nat)}, Cps ps → Cp (joinL s ps)
  | [], _ => Cp.nil
  | [x], h => h x (by simp)
  | x :: y :: r, h => ((h x (by simp)).app hs).app (Cp.join hs fun p hp => h p (List.mem_cons_of_mem _ hp))
end
end Np
set_option Elab.async false
set_option linter.all false
set_option maxRecDepth 100000
set_option maxHeartbeats 4000000
namespace Np
open PySem L2
section
variable {ρ : PEnv} {τ : TS'} {a b r : DA} {e : DE} {as bs : List DD} {n m : Nat} {cls f : PySem.Str} {names : List PySem.Str} {ix : List Ix}
def eMk1 (r : R (List DD)) (n m : Nat) (cls : PySem.Str) (names : List PySem.Str) (ix : List Ix) (b : DA) (ρ : PEnv) : R DD := r.bind fun as τ1 => (b ρ τ1).bind fun bs τ2 =>
  if as.length = n ∧ bs.length = m ∧ (pickL [] ix as bs).length = names.length then .ok (mkD cls names ix as bs) τ2 else .no
def eMk2 (r : R (List DD)) (n m : Nat) (cls : PySem.Str) (names : List PySem.Str) (ix : List Ix) (as : List DD) : R DD := r.bind fun bs τ2 =>
  if as.length = n ∧ bs.length = m ∧ (pickL [] ix as bs).length = names.length then .ok (mkD cls names ix as bs) τ2 else .no
@[simp] theorem ev_MkN : dMkN n m cls names ix a b ρ τ = eMk1 (a ρ τ) n m cls names ix b ρ := id rfl
@[simp] theorem eMk1_ok : eMk1 (.ok as τ) n m cls names ix b ρ = eMk2 (b ρ τ) n m cls names ix as := id rfl
@[simp] theorem eMk2_ok : eMk2 (.ok bs τ) n m cls names ix as = if as.length = n ∧ bs.length = m ∧ (pickL [] ix as bs).length = names.length then .ok (mkD cls names ix as bs) τ else .no := id rfl
def fldD (cls f : PySem.Str) : DD → Option DD
  | .obj C fs => if C = cls then fs.lookup f else none
  | _ => none
@[simp] theorem ev_Fld : dFld cls f e ρ τ = eUn (e ρ τ) (fldD cls f) := by
  unfold dFld eUn
  congr 1
  funext x τ1
  unfold fldD
  cases x <;> first | rfl | (dsimp only [R.of]; split <;> rfl)
def eEnF1 (r : R (List DD)) (b : DA) (ρ : PEnv) : R (List DD) := r.bind fun x τ1 => (b ρ τ1).bind fun y τ2 => match x, y with
  | [.lst ds], [.int k0] => if -(2 ^ 63) ≤ k0 ∧ k0 < 2 ^ 63 then .ok (enumF k0 ds) τ2 else .no
  | _, _ => .no
def eEnF2 (r : R (List DD)) (x : List DD) : R (List DD) := r.bind fun y τ2 => match x, y with
  | [.lst ds], [.int k0] => if -(2 ^ 63) ≤ k0 ∧ k0 < 2 ^ 63 then .ok (enumF k0 ds) τ2 else .no
  | _, _ => .no
@[simp] theorem ev_IEnumF : dIEnumF a b ρ τ = eEnF1 (a ρ τ) b ρ := id rfl
@[simp] theorem eEnF1_ok : eEnF1 (.ok as τ) b ρ = eEnF2 (b ρ τ) as := id rfl
@[simp] theorem eEnF2_ok {ds : List DD} {k0 : Int} : eEnF2 (.ok [.int k0] τ) [.lst ds] = if -(2 ^ 63) ≤ k0 ∧ k0 < 2 ^ 63 then .ok (enumF k0 ds) τ else .no := id rfl
def rg3 : List DD → Option (List DD)
  | [.int i, .int j, .int c] => if RgC i j c (Builtin.Range.rangeSize i j c).toNat then some (rangeC i c (Builtin.Range.rangeSize i j c).toNat) else none
  | _ => none
@[simp] theorem ev_IR3 : dIR3 r ρ τ = eUn (r ρ τ) rg3 := by
  unfold dIR3 eUn
  congr 1
  funext x τ1
  unfold rg3
  rcases x with _ | ⟨d, _ | ⟨e, _ | ⟨f, _ | ⟨g, x⟩⟩⟩⟩
  · rfl
  · cases d <;> rfl
  · cases d <;> cases e <;> rfl
  · cases d <;> cases e <;> cases f <;> first | rfl | (dsimp only [R.of]; split <;> rfl)
  · cases d <;> cases e <;> cases f <;> rfl
@[simp] theorem c3_eq {g : DD → DD → DD → Option DD} {x y z : DD} : c3 g [x, y, z] = g x y z := id rfl
@[simp] theorem gMin3_eq {i j k : Int} : gMin3 (.int i) (.int j) (.int k) = some (.int (min3 i j k)) := id rfl
@[simp] theorem gSortI_ints (ns : List Int) : gSortI (.lst (ns.map DD.int)) = some (.lst ((sortI ns).map DD.int)) := by
  have e : ints? (ns.map DD.int) = some ns := by
    induction ns with
    | nil => rfl
    | cons n ns ih => rw [List.map_cons, ints?, ih]; rfl
  show (ints? (ns.map DD.int)).map _ = _
  rw [e]
  rfl
theorem tgF_three {i j l : Nat} {x y z : DD} : tgF (.tp [.nm i, .nm j, .nm l]) (.tup [x, y, z]) ρ = some (((ρ.set i (some (.fr x))).set j (some (.fr y))).set l (some (.fr z))) := by simp
end
end Np
set_option Elab.async false
set_option linter.all false
set_option maxRecDepth 100000
set_option maxHeartbeats 4000000
namespace Np
open PySem PySem.Spec PyProof.Rows L2
section
variable {ρ : PEnv} {τ τ' : TS'} {a b e : DE} {r : DA} {ps qs : DPs} {k n m : Nat} {F : Fn} {FI : FnI} {FO : FnO} {g : List PV → List PV → List PV} {as bs : List PV} {cls mm f : PySem.Str} {fs gs : List (PySem.Str × DD)} {d x y : DD}
noncomputable def eMkP2 (r : R (List PV)) (k n m : Nat) (F : FnI) (g : List PV → List PV → List PV) (as : List PV) : R DD := r.bind fun bs τ2 => if as.length = n ∧ bs.length = m ∧ (g as bs).length + 1 = k then allX F (g as bs) τ2 else .no
noncomputable def eMkP1 (r : R (List PV)) (k n m : Nat) (F : FnI) (g : List PV → List PV → List PV) (b : DPs) (ρ : PEnv) : R DD := r.bind fun as τ1 => eMkP2 (b ρ τ1) k n m F g as
@[simp] theorem ev_MkP : dMkP k n m FI g ps qs ρ τ = eMkP1 (ps ρ τ) k n m FI g qs ρ := id rfl
@[simp] theorem eMkP1_ok : eMkP1 (.ok as τ) k n m FI g qs ρ = eMkP2 (qs ρ τ) k n m FI g as := id rfl
@[simp] theorem eMkP2_ok : eMkP2 (.ok bs τ) k n m FI g as = if as.length = n ∧ bs.length = m ∧ (g as bs).length + 1 = k then allX FI (g as bs) τ else .no := id rfl
noncomputable def eMkN2 (r : R (List PV)) (k n m : Nat) (F : FnI) (g : List PV → List PV → List PV) (as : List PV) : R DD := r.bind fun bs τ2 => if as.length = n ∧ bs.length = m ∧ (g as bs).length + 1 = k then (allX F (g as bs) τ2).nox else .no
noncomputable def eMkN1 (r : R (List PV)) (k n m : Nat) (F : FnI) (g : List PV → List PV → List PV) (b : DPs) (ρ : PEnv) : R DD := r.bind fun as τ1 => eMkN2 (b ρ τ1) k n m F g as
@[simp] theorem ev_MkN' : dMkN' k n m FI g ps qs ρ τ = eMkN1 (ps ρ τ) k n m FI g qs ρ := id rfl
@[simp] theorem eMkN1_ok : eMkN1 (.ok as τ) k n m FI g qs ρ = eMkN2 (qs ρ τ) k n m FI g as := id rfl
@[simp] theorem eMkN2_ok : eMkN2 (.ok bs τ) k n m FI g as = if as.length = n ∧ bs.length = m ∧ (g as bs).length + 1 = k then (allX FI (g as bs) τ).nox else .no := id rfl
def eMeN2 (r : R (List PV)) (k : Nat) (F : Fn) (x : DD) : R DD := r.bind fun as τ2 => if as.length + 1 = k then (F (.fr x :: as) τ2).nox else .no
def eMeN1 (r : R DD) (k : Nat) (cls m : PySem.Str) (F : Fn) (ps : DPs) (ρ : PEnv) : R DD := r.bind fun x τ1 => match x with
  | .obj C fs => if C = cls ∧ fs.lookup m = none then eMeN2 (ps ρ τ1) k F (.obj C fs) else .no
  | _ => .no
@[simp] theorem ev_MethN : dMethN k cls mm F a ps ρ τ = eMeN1 (a ρ τ) k cls mm F ps ρ := by
  unfold dMethN eMeN1
  congr 1
@[simp] theorem eMeN1_ok : eMeN1 (.ok (.obj cls fs) τ) k cls mm F ps ρ = if fs.lookup mm = none then eMeN2 (ps ρ τ) k F (.obj cls fs) else .no := by
  simp only [eMeN1, R.bind_ok, true_and]
@[simp] theorem eMeN2_ok : eMeN2 (.ok as τ) k F x = if as.length + 1 = k then (F (.fr x :: as) τ).nox else .no := id rfl
def eMeO2 (r : R (List PV)) (k : Nat) (F : FnO) (x : DD) : R OC := r.bind fun as τ2 => if as.length + 1 = k then (F (.fr x :: as) τ2).nox else .no
def eMeO1 (r : R DD) (k : Nat) (cls m : PySem.Str) (F : FnO) (ps : DPs) (ρ : PEnv) : R OC := r.bind fun x τ1 => match x with
  | .obj C fs => if C = cls ∧ fs.lookup m = none then eMeO2 (ps ρ τ1) k F (.obj C fs) else .no
  | _ => .no
@[simp] theorem ev_MethON : dMethON k cls mm FO a ps ρ τ = eMeO1 (a ρ τ) k cls mm FO ps ρ := by
  unfold dMethON eMeO1
  congr 1
@[simp] theorem eMeO1_ok : eMeO1 (.ok (.obj cls fs) τ) k cls mm FO ps ρ = if fs.lookup mm = none then eMeO2 (ps ρ τ) k FO (.obj cls fs) else .no := by
  simp only [eMeO1, R.bind_ok, true_and]
@[simp] theorem eMeO2_ok : eMeO2 (.ok as τ) k FO x = if as.length + 1 = k then (FO (.fr x :: as) τ).nox else .no := id rfl
def eSp (r : R (List DD)) (cls : PySem.Str) (F : Fn) (h : DD → TS' → R DD) : R DD := r.bind fun xs τ1 => match xs with
  | [.obj C fs] => if C = cls then (F [.fr (.obj C fs)] τ1).nox.bind h else .no
  | _ => .no
def hLen (d : DD) (τ2 : TS') : R DD := match d with
  | .int n => if 0 ≤ n ∧ n < 2 ^ 63 then .ok (.int n) τ2 else .no
  | _ => .no
def hStr (d : DD) (τ2 : TS') : R DD := match d with
  | .str z => .ok (.str z) τ2
  | _ => .no
def hBool (d : DD) (τ2 : TS') : R DD := match d with
  | .int n => if 0 ≤ n ∧ n < 2 ^ 63 then .ok (.bl (n != 0)) τ2 else .no
  | _ => .no
@[simp] theorem ev_LenO : dLenO cls F r ρ τ = eSp (r ρ τ) cls F hLen := id rfl
@[simp] theorem ev_StrO : dStrO cls F r ρ τ = eSp (r ρ τ) cls F hStr := id rfl
@[simp] theorem ev_BoolO : dBoolO cls F r ρ τ = eSp (r ρ τ) cls F hBool := id rfl
@[simp] theorem eSp_ok {h : DD → TS' → R DD} : eSp (.ok [.obj cls fs] τ) cls F h = (F [.fr (.obj cls fs)] τ).nox.bind h := if_pos rfl
@[simp] theorem hLen_ok {i : Int} : hLen (.int i) τ = if 0 ≤ i ∧ i < 9223372036854775808 then .ok (.int i) τ else .no := id rfl
@[simp] theorem hBool_ok {i : Int} : hBool (.int i) τ = if 0 ≤ i ∧ i < 9223372036854775808 then .ok (.bl (i != 0)) τ else .no := id rfl
@[simp] theorem hStr_ok {z : PySem.Str} : hStr (.str z) τ = .ok (.str z) τ := id rfl
def eEqO2 (r : R DD) (neg : Bool) (cls : PySem.Str) (F : Fn) (x : DD) : R DD := r.bind fun y τ2 => match x with
  | .obj C fs => if C = cls ∧ sideY cls y = true then (toB (F [.fr (.obj C fs), .fr y] τ2)).bind fun r τ3 => .ok (.bl (xor neg r)) τ3 else .no
  | _ => .no
def eEqO1 (r : R DD) (neg : Bool) (cls : PySem.Str) (F : Fn) (b : DE) (ρ : PEnv) : R DD := r.bind fun x τ1 => eEqO2 (b ρ τ1) neg cls F x
@[simp] theorem ev_EqO {neg : Bool} : dEqO neg cls F a b ρ τ = eEqO1 (a ρ τ) neg cls F b ρ := by
  unfold dEqO eEqO1
  congr 1
  funext x τ1
  unfold eEqO2
  congr 1
  funext y τ2
  cases x <;> first | rfl | skip
  dsimp only
  rename_i C fs
  by_cases h : C = cls ∧ sideY cls y = true
  · rw [if_pos h, if_pos h]
    generalize F [.fr (.obj C fs), .fr y] τ2 = R0
    cases R0 with
    | ok d t => cases d <;> rfl
    | ex _ _ => rfl
    | no => rfl
  · rw [if_neg h, if_neg h]
@[simp] theorem eEqO1_ok {neg : Bool} : eEqO1 (.ok x τ) neg cls F b ρ = eEqO2 (b ρ τ) neg cls F x := id rfl
@[simp] theorem eEqO2_ok {neg : Bool} : eEqO2 (.ok y τ) neg cls F (.obj cls fs) = if sideY cls y = true then (toB (F [.fr (.obj cls fs), .fr y] τ)).bind fun r τ3 => .ok (.bl (xor neg r)) τ3 else .no := by
  simp only [eEqO2, R.bind_ok, true_and]
@[simp] theorem toB_ok {z : Bool} : toB (.ok (.bl z) τ) = .ok z τ := id rfl
def eEqR2 (r : R DD) (cls : PySem.Str) (F : Fn) (y : DD) : R DD := r.bind fun x τ2 => match x with
  | .obj C fs => if C = cls ∧ thing y = true then (toB (F [.fr (.obj C fs), .fr y] τ2)).bind fun r τ3 => .ok (.bl r) τ3 else .no
  | _ => .no
def eEqR1 (r : R DD) (cls : PySem.Str) (F : Fn) (b : DE) (ρ : PEnv) : R DD := r.bind fun y τ1 => eEqR2 (b ρ τ1) cls F y
@[simp] theorem ev_EqR : dEqR cls F a b ρ τ = eEqR1 (a ρ τ) cls F b ρ := id rfl
@[simp] theorem eEqR1_ok : eEqR1 (.ok y τ) cls F b ρ = eEqR2 (b ρ τ) cls F y := id rfl
@[simp] theorem eEqR2_ok : eEqR2 (.ok (.obj cls fs) τ) cls F y = if thing y = true then (toB (F [.fr (.obj cls fs), .fr y] τ)).bind fun r τ3 => .ok (.bl r) τ3 else .no := by
  simp only [eEqR2, R.bind_ok, true_and]
noncomputable def eInO2 (r : R DD) (neg : Bool) (cls : PySem.Str) (F : Fn) (x : DD) : R DD := r.bind fun y τ2 => match x, y with
  | .obj C fs, .lst ds => if C = cls then (inD cls F (.obj C fs) ds τ2).bind fun r τ3 => .ok (.bl (xor neg r)) τ3 else .no
  | _, _ => .no
noncomputable def eInO1 (r : R DD) (neg : Bool) (cls : PySem.Str) (F : Fn) (b : DE) (ρ : PEnv) : R DD := r.bind fun x τ1 => eInO2 (b ρ τ1) neg cls F x
@[simp] theorem ev_InO {neg : Bool} : dInO neg cls F a b ρ τ = eInO1 (a ρ τ) neg cls F b ρ := id rfl
@[simp] theorem eInO1_ok {neg : Bool} : eInO1 (.ok x τ) neg cls F b ρ = eInO2 (b ρ τ) neg cls F x := id rfl
@[simp] theorem eInO2_ok {neg : Bool} {ds : List DD} : eInO2 (.ok (.lst ds) τ) neg cls F (.obj cls fs) = (inD cls F (.obj cls fs) ds τ).bind fun r τ3 => .ok (.bl (xor neg r)) τ3 := if_pos rfl
@[simp] theorem inD_nil : inD cls F x [] τ = .ok false τ := id rfl
@[simp] theorem gIsO_obj : gIsO cls (.obj cls fs) = some (.bl true) := if_pos rfl
@[simp] theorem gIsO_non : gIsO cls .non = some (.bl false) := id rfl
@[simp] theorem gIsO_int {i : Int} : gIsO cls (.int i) = some (.bl false) := id rfl
@[simp] theorem gIsO_str {i : PySem.Str} : gIsO cls (.str i) = some (.bl false) := id rfl
@[simp] theorem gIsO_lst {i : List DD} : gIsO cls (.lst i) = some (.bl false) := id rfl
@[simp] theorem gIsO_tup {i : List DD} : gIsO cls (.tup i) = some (.bl false) := id rfl
@[simp] theorem side_obj : sideY cls (.obj cls fs) = true := decide_eq_true rfl
@[simp] theorem side_non : sideY cls .non = true := id rfl
@[simp] theorem side_int {i : Int} : sideY cls (.int i) = true := id rfl
@[simp] theorem side_str {i : PySem.Str} : sideY cls (.str i) = true := id rfl
@[simp] theorem side_lst {i : List DD} : sideY cls (.lst i) = true := id rfl
@[simp] theorem side_tup {i : List DD} : sideY cls (.tup i) = true := id rfl
@[simp] theorem th_non : thing .non = true := id rfl
@[simp] theorem th_int {i : Int} : thing (.int i) = true := id rfl
@[simp] theorem th_str {i : PySem.Str} : thing (.str i) = true := id rfl
@[simp] theorem th_lst {i : List DD} : thing (.lst i) = true := id rfl
@[simp] theorem th_tup {i : List DD} : thing (.tup i) = true := id rfl
@[simp] theorem gSlT_eq {ds : List DD} {lo hi : Option Int} : gSlT (.tup ds) lo hi = some (.tup (cutL ds lo hi)) := id rfl
@[simp] theorem gIsB_eq {p q : Bool} : gIsB (.bl p) (.bl q) = some (.bl (decide (p = q))) := id rfl
@[simp] theorem gLenRg1_eq {i : Int} : gLenRg1 (.int i) = if (i.toNat : Int) < 9223372036854775808 then some (.int i.toNat) else none := id rfl
def eDropApp (r : R OC) (ρ : PEnv) : R Ct := stE r ρ fun c τ1 => match c with
  | .lst xs => if xs.length < sizeLine then .ok (.nx ρ) τ1 else .no
  | _ => .no
@[simp] theorem ev_DropApp {φ : PEnv → TS' → R OC} : dDropApp φ ρ τ = eDropApp (φ ρ τ) ρ := id rfl
@[simp] theorem eDropApp_ok {xs : List DD} : eDropApp (.ok (.lst xs) τ) ρ = if xs.length < 16777216 then .ok (.nx ρ) τ else .no := by
  show (if xs.length < sizeLine then _ else _) = _
  rfl
@[simp] theorem ev_IEnd : dIEnd cls ρ τ fs = .ok (.obj cls fs) τ := id rfl
def eISet (r : R DD) (f : PySem.Str) (t : DI') (ρ : PEnv) (fs : List (PySem.Str × DD)) : R DD := r.bind fun d τ1 => if fs.length < 1000 then t ρ τ1 (putD f d fs) else .no
@[simp] theorem ev_ISet {t : DI'} : dISet f e t ρ τ fs = eISet (e ρ τ) f t ρ fs := id rfl
@[simp] theorem eISet_ok {t : DI'} : eISet (.ok d τ) f t ρ fs = if fs.length < 1000 then t ρ τ (putD f d fs) else .no := id rfl
@[simp] theorem putD_nil : putD f d [] = [(f, d)] := id rfl
@[simp] theorem fixR_ok : fixR τ' (.ok d τ) = .ok d (fixT τ' τ) := id rfl
@[simp] theorem bodyI2_ok {t : DI'} {z : Addr} : bodyI2 t z τ ρ τ' (some (some (.fr (.raw z)))) = fixR τ (t ρ τ' []) := if_pos rfl
@[simp] theorem fixT_same : fixT τ τ = τ := by cases τ <;> rfl
end
mutual
theorem Rp.func {K : PySem.W.Frag} {cm : CM} {G : GH} : ∀ {v : V} {d e : DD}, Rp K cm G v d → Rp K cm G v e → plainD d = true → plainD e = true → d = e
  | _, _, _, .non, .non, _, _ => rfl
  | _, _, _, .bl _, .bl _, _, _ => rfl
  | _, _, _, .int _, .int _, _, _ => rfl
  | _, _, _, .str _, .str _, _, _ => rfl
  | _, _, _, .lst h r, e, p, q => by
    cases e with
    | lst h' r' => rw [h] at h'; cases h'; rw [RpA.func r r' p q]
    | tup h' _ => rw [h] at h'; cases h'
    | dic h' _ => rw [h] at h'; cases h'
    | obj h' _ => rw [h] at h'; cases h'
    | exc h' _ _ _ _ => cases q
    | raw _ => cases q
    | ptr _ => cases q
    | tux _ _ _ => cases q
  | _, _, _, .tup h r, e, p, q => by
    cases e with
    | tup h' r' => rw [h] at h'; cases h'; rw [RpA.func r r' p q]
    | lst h' _ => rw [h] at h'; cases h'
    | dic h' _ => rw [h] at h'; cases h'
    | obj h' _ => rw [h] at h'; cases h'
    | exc h' _ _ _ _ => cases q
    | raw _ => cases q
    | ptr _ => cases q
    | tux _ _ _ => cases q
  | _, _, _, .dic h r, e, p, q => by cases p
  | _, _, _, .obj h r, e, p, q => by cases p
  | _, _, _, .exc _ _ _ _ _, e, p, q => by cases p
  | _, _, _, .raw _, e, p, q => by cases p
  | _, _, _, .ptr _, e, p, q => by cases p
  | _, _, _, .tux _ _ _, e, p, q => by cases p
theorem RpA.func {K : PySem.W.Frag} {cm : CM} {G : GH} : ∀ {v : List V} {d e : List DD}, RpA K cm G v d → RpA K cm G v e → plainDs d = true → plainDs e = true → d = e
  | _, _, _, .nil, .nil, _, _ => rfl
  | _, _, _, .cons h r, .cons h' r', p, q => by
    unfold plainDs at p q
    rw [Bool.and_eq_true] at p q
    rw [Rp.func h h' p.1 q.1, RpA.func r r' p.2 q.2]
end
def plainFs : List (PySem.Str × DD) → Bool
  | [] => true
  | (_, d) :: r => plainD d && plainFs r
theorem RpF.func {K : PySem.W.Frag} {cm : CM} {G : GH} : ∀ {v : List (PySem.Str × V)} {d e : List (PySem.Str × DD)}, RpF K cm G v d → RpF K cm G v e → plainFs d = true → plainFs e = true → d = e
  | _, _, _, .nil, .nil, _, _ => rfl
  | _, _, _, .cons h r, .cons h' r', p, q => by
    unfold plainFs at p q
    rw [Bool.and_eq_true] at p q
    rw [Rp.func h h' p.1 q.1, RpF.func r r' p.2 q.2]
end Np
set_option Elab.async false
set_option linter.all false
set_option maxRecDepth 100000
namespace Np
open PySem PySem.Spec PyProof.Rows L2
section
variable {a b : DA} {ρ : PEnv} {τ : TS'} {as : List DD}
def eZpS1 (r : R (List DD)) (b : DA) (ρ : PEnv) : R (List DD) := r.bind fun x τ1 => (b ρ τ1).bind fun y τ2 => match x, y with
  | [.lst ds, .lst es], [.bl true] => if ds.length = es.length then .ok (zipD ds es) τ2 else .no
  | _, _ => .no
def eZpS2 (r : R (List DD)) (x : List DD) : R (List DD) := r.bind fun y τ2 => match x, y with
  | [.lst ds, .lst es], [.bl true] => if ds.length = es.length then .ok (zipD ds es) τ2 else .no
  | _, _ => .no
@[simp] theorem ev_IZipS : dIZipS a b ρ τ = eZpS1 (a ρ τ) b ρ := id rfl
@[simp] theorem eZpS1_ok : eZpS1 (.ok as τ) b ρ = eZpS2 (b ρ τ) as := id rfl
@[simp] theorem eZpS2_ok {ds es : List DD} : eZpS2 (.ok [.bl true] τ) [.lst ds, .lst es] = if ds.length = es.length then .ok (zipD ds es) τ else .no := id rfl
end
section
variable {ρ : PEnv} {τ : TS'} {a : DE} {F : Fn} {cls : PySem.Str} {fs : List (PySem.Str × DD)}
def eDropClr (r : R OC) (ρ : PEnv) : R Ct := stE r ρ fun c τ1 => match c with
  | .lst _ => .ok (.nx ρ) τ1
  | _ => .no
@[simp] theorem ev_DropClr {φ : PEnv → TS' → R OC} : dDropClr φ ρ τ = eDropClr (φ ρ τ) ρ := id rfl
@[simp] theorem eDropClr_ok {xs : List DD} : eDropClr (.ok (.lst xs) τ) ρ = .ok (.nx ρ) τ := id rfl
def hTru (d : DD) (τ2 : TS') : R Bool := match d with
  | .int n => if 0 ≤ n ∧ n < 2 ^ 63 then .ok (n != 0) τ2 else .no
  | _ => .no
def eTruO (r : R DD) (cls : PySem.Str) (F : Fn) : R Bool := r.bind fun x τ1 => match x with
  | .obj C fs => if C = cls then (F [.fr (.obj C fs)] τ1).nox.bind hTru else .no
  | _ => .no
@[simp] theorem ev_TruO : dTruO cls F a ρ τ = eTruO (a ρ τ) cls F := id rfl
@[simp] theorem eTruO_ok : eTruO (.ok (.obj cls fs) τ) cls F = (F [.fr (.obj cls fs)] τ).nox.bind hTru := if_pos rfl
@[simp] theorem hTru_ok {i : Int} : hTru (.int i) τ = if 0 ≤ i ∧ i < 9223372036854775808 then .ok (i != 0) τ else .no := id rfl
end
end Np
set_option Elab.async false
set_option linter.all false
set_option maxRecDepth 100000
namespace Np
open PySem PySem.Spec PyProof.Rows L2
section
variable {ρ : PEnv} {τ τ' : TS'} {e : DE} {ps qs : DPs} {i k n m : Nat} {FI : FnI} {g : List PV → List PV → List PV} {f : PySem.Str} {fs : List (PySem.Str × DD)} {d : DD}
def eISetV (r : R DD) (f : PySem.Str) (t : DI') (ρ : PEnv) (fs : List (PySem.Str × DD)) : R DD := r.bind fun d τ1 => if flatD d = true ∧ fs.length < 1000 then t ρ τ1 (putD f d fs) else .no
@[simp] theorem ev_ISetV {t : DI'} : dISetV f e t ρ τ fs = eISetV (e ρ τ) f t ρ fs := id rfl
@[simp] theorem eISetV_ok {t : DI'} : eISetV (.ok d τ) f t ρ fs = if flatD d = true ∧ fs.length < 1000 then t ρ τ (putD f d fs) else .no := id rfl
@[simp] theorem flatD_int {j : Int} : flatD (.int j) = true := id rfl
@[simp] theorem flatD_str {j : PySem.Str} : flatD (.str j) = true := id rfl
@[simp] theorem flatD_bl {j : Bool} : flatD (.bl j) = true := id rfl
@[simp] theorem flatD_non : flatD .non = true := id rfl
def eISetL (r : R OC) (f : PySem.Str) (t : DI') (ρ : PEnv) (fs : List (PySem.Str × DD)) : R DD := r.bind fun c τ1 => match c with
  | .lst ys => if ys.all flatD = true ∧ fs.length < 1000 then t ρ τ1 (putD f (.lst ys) fs) else .no
  | _ => .no
@[simp] theorem ev_ISetL {a : PEnv → TS' → R OC} {t : DI'} : dISetL f a t ρ τ fs = eISetL (a ρ τ) f t ρ fs := id rfl
@[simp] theorem eISetL_ok {ys : List DD} {t : DI'} : eISetL (.ok (.lst ys) τ) f t ρ fs = if ys.all flatD = true ∧ fs.length < 1000 then t ρ τ (putD f (.lst ys) fs) else .no := id rfl
noncomputable def eMkB (o : Option (Option PV)) (i k n m : Nat) (F : FnI) (g : List PV → List PV → List PV) (a b : DPs) (ρ : PEnv) (τ : TS') : R DD := match o with
  | some (some (.ow c)) => match dMkN' k n m F g a b (bor i c ρ) none with
    | .ok d _ => .ok d τ
    | _ => .no
  | _ => .no
def eMkB2 (r : R DD) (τ : TS') : R DD := match r with
  | .ok d _ => .ok d τ
  | _ => .no
@[simp] theorem ev_MkB : dMkB i k n m FI g ps qs ρ τ = eMkB ρ[i]? i k n m FI g ps qs ρ τ := id rfl
@[simp] theorem eMkB_ok {c : OC} : eMkB (some (some (.ow c))) i k n m FI g ps qs ρ τ = eMkB2 (dMkN' k n m FI g ps qs (bor i c ρ) none) τ := id rfl
@[simp] theorem eDrop_ex {x : Ex} : eDrop (.ex x τ) ρ = .ok (.xc x ρ) τ := id rfl
@[simp] theorem eMkB2_ok : eMkB2 (.ok d τ') τ = .ok d τ := id rfl
end
end Np
set_option Elab.async false
set_option linter.all false
set_option maxRecDepth 100000
namespace Np
open PySem PySem.Spec PyProof.Rows L2
section
variable {ρ : PEnv} {τ τ' : TS'} {e : DE} {i j : Nat}
def ePopA2 (r : Option (Nat × DD)) (xs : List DD) (i j : Nat) (ρ : PEnv) (τ : TS') : R Ct := match r with
  | some (k, y) => .ok (.nx ((ρ.set i (some (.ow (.lst (xs.eraseIdx k))))).set j (some (.fr y)))) τ
  | none => .no
def ePopA (o : Option (Option PV)) (r : R DD) (i j : Nat) (ρ : PEnv) : R Ct := match o with
  | some (some (.ow (.lst xs))) => stE r ρ fun d τ1 => match d with
    | .int n => ePopA2 (popD xs n) xs i j ρ τ1
    | _ => .no
  | _ => .no
@[simp] theorem ev_PopA : dPopA i j e ρ τ = ePopA ρ[i]? (e ρ τ) i j ρ := id rfl
@[simp] theorem ePopA_ok {xs : List DD} {n : Int} : ePopA (some (some (.ow (.lst xs)))) (.ok (.int n) τ) i j ρ = ePopA2 (popD xs n) xs i j ρ τ := id rfl
@[simp] theorem ePopA2_ok {k : Nat} {y : DD} {xs : List DD} : ePopA2 (some (k, y)) xs i j ρ τ = .ok (.nx ((ρ.set i (some (.ow (.lst (xs.eraseIdx k))))).set j (some (.fr y)))) τ := id rfl
@[simp] theorem gWords_eq {z : PySem.Str} : gWords z [] = if z.length + 2 ≤ 16777216 then some (.lst ((Txt.words z).map DD.str)) else none := by
  show (if z.length + 2 ≤ sizeLine then _ else _) = _
  rfl
end
end Np
set_option Elab.async false
set_option linter.all false
set_option maxRecDepth 100000
set_option maxHeartbeats 4000000
namespace Np
open PySem PySem.Spec PyProof.Rows L2
end Np
set_option Elab.async false
set_option linter.all false
set_option maxRecDepth 100000
set_option maxHeartbeats 4000000
namespace Np
open PySem PySem.Spec PyProof.Rows L2
def keysD (F : Fn) : List DD → Option (List PyData)
  | [] => some []
  | d :: ds => match F [.fr d] none with
    | .ok kd _ => match toPy kd, keysD F ds with
      | some p, some ps => some (p :: ps)
      | _, _ => none
    | _ => none
def keysOk (ps : List PyData) : Prop := ∀ p ∈ ps, (∀ q ∈ ps, PySem.W.alike p q = true) ∧ p.depth ≤ 64 ∧ p ≠ .none
def bestD (ps : List PyData) : Nat := argBest (fun i j => PySem.W.dataLt (ps.getD i .none) (ps.getD j .none)) (ps.length - 1)
open Classical in
noncomputable def gMinK (F : Fn) (ds : List DD) : Option DD := match keysD F ds with
  | some ps => if 0 < ds.length ∧ keysOk ps then ds[bestD ps]? else none
  | none => none
noncomputable def dMinK (F : Fn) (a : DA) : DE := fun ρ τ => (a ρ τ).bind fun xs τ1 => match xs with
  | [.lst ds] => R.of τ1 (gMinK F ds)
  | _ => .no
end Np
set_option Elab.async false
set_option linter.all false
set_option maxRecDepth 100000
set_option maxHeartbeats 4000000
namespace Np
open PySem PySem.Spec PyProof.Rows L2
section
variable {W : Wp} {Wx : L2.St → XK} {tr : TA} {δr : DA}
def dIZipA (a : DA) : DI := fun ρ τ => (a ρ τ).bind fun x τ1 => match x with
  | [.lst ds, .lst es] => .ok (zipD ds es) τ1
  | [.tup ds, .tup es] => .ok (zipD ds es) τ1
  | _ => .no
end
end Np
set_option Elab.async false
set_option linter.all false
set_option maxRecDepth 100000
set_option maxHeartbeats 4000000
namespace Np
open PySem PySem.Spec PyProof.Rows L2
section
variable {X : Cx} {pins : List (Addr × Obj)} {σ : L2.St} {H : Hp} {s : Shared} {a : Addr}
theorem suiteT (I : L2.Inv X pins σ H s) (a : Addr) : L2.Inv (X.suite a (X.pn ++ pins)) [] σ H s :=
  ⟨I.ok.suite _ _, I.os, I.bare, I.base, I.loc, I.cell, I.free, I.freeC, fun p hp => I.pin p (by rw [List.append_nil] at hp; exact hp), I.hok, I.len⟩
theorem unsuiteT {pn' : List (Addr × Obj)} (I : L2.Inv (X.suite a (X.pn ++ pins)) pn' σ H s) (ok : X.Ok) : L2.Inv X pins σ H s :=
  ⟨ok, I.os, I.bare, I.base, I.loc, I.cell, I.free, I.freeC, fun p hp => I.pin p (List.mem_append_left _ hp), I.hok, I.len⟩
end
section
variable {X : Cx} {body suite : List Stmt} {b₀ : Stmt} {x n : Str} {i : Nat} {c : Value} {np pos' pos : Pos} {tb : WX → TS} {ts : TS} {Wout : WX}
def endsT (i : Nat) (D : Ends) : Ends :=
  ⟨fun σ' H' => D.nx (σ'.set i none) H', fun v H' => D.rt v H', fun σ' H' => D.bk (σ'.set i none) H', fun σ' H' => D.ct (σ'.set i none) H'⟩
def wTrk (K : PySem.W.Frag) (c : Value) (i : Nat) (ts : TS) (Wout : WX) (D : Ends) : WX := fun cls d σ H =>
  ∃ b, PySem.W.exmOne K cls c = some b ∧ (b = true → ∀ a oe vs, H a = none → Zc cls d oe → oe.data = .fields vs → ts (endsT i D) (σ.set i (some (.ref a))) (upd H a (exk a oe))) ∧ (b = false → Wout cls d σ H)
theorem ps_try_trk (hstk : X.stack = X.env :: X.outer) (hfrm : X.env.frame = some X.env.locals) (hex : X.ex = []) (hnd : X.N.Nodup) (hix : X.N[i]? = some n) (hkind : X.env.kindOf n = some .local) (hcls : Names X x c) (tk : Takes X Wout)
    (hbody : ∀ (W : WX) (pn : List (Addr × Obj)) (xe : Value → Shared → Prop), Takes (X.tr pn xe) W → PassesOwn (model X.prog X.w) X.A X.env xe → PSs (X.tr pn xe) body (tb W))
    (hsuite : ∀ (a : Addr) (pn : List (Addr × Obj)), PSs (X.suite a pn) (b₀ :: suite) ts) :
    PS X (.Try body [.ExceptHandler (some (.Name x np)) (some n) (b₀ :: suite) pos'] [] [] pos) (fun D σ H => tb (wTrk X.K c i ts Wout D) D σ H) := by
  refine ⟨fun pins s σ H D I hread => ?_⟩
  have okX := I.ok
  have fr0 : X.A.frames = some (X.env :: X.outer) := by rw [okX.frames, hstk]
  refine wpAny_Try_except ?_
  refine wpAny_mono ((hbody (wTrk X.K c i ts Wout D) (X.pn ++ pins) (fun er s₁ => wpAny (model X.prog X.w) X.A (noteFrame er X.env) (fun _ s₂ => wpAny (model X.prog X.w) X.A (setFlight er none) (fun _ s₃ =>
    wpAny (model X.prog X.w) X.A (handleBy er X.env [.ExceptHandler (some (.Name x np)) (some n) (b₀ :: suite) pos']) (SP X pins D) X.xe s₃) X.xe s₂) X.xe s₁) (fun u s' air => ?_) PassesOwn.looking).run [] s σ H D (I.toTry _) hread) (fun fl s1 hsp => ?_) (fun _ _ z => z)
  · obtain ⟨a, B, sI, pins', σ', H', cls, d, rfl, J', inB, up, sky, na, eos, gs, b, hb, yes, no⟩ := air
    have J : L2.Inv X pins σ' H' sI := J'.ofTry okX
    have sky1 : Sky B (X.env :: X.outer) a (Zc cls d) X.env.locals s'.heap := by rw [← hstk]; exact sky
    show wpAny (model X.prog X.w) X.A (noteFrame (.ref a) X.env) _ _ _
    refine Sky.land Zc.steady fr0 hfrm sky1 fun h3 f3 up3 => ?_
    have J3 : L2.Inv X pins σ' H' { s' with heap := h3 } := J.landed inB f3.1 (up.trans up3) eos gs
    obtain ⟨oe3, vs3, at3, z3, dat3⟩ := f3.there
    have outside : a ∉ frs (X.env :: X.outer) := fun hm => by
      obtain ⟨_, o', e', hnf⟩ := f3.2.2.1.mem hm
      rw [at3] at e'
      cases e'
      exact hnf _ dat3
    have nL : a ≠ X.env.locals := fun z => outside (List.mem_filterMap.mpr ⟨X.env, List.mem_cons_self, by rw [hfrm, z]⟩)
    have nF : a ∉ X.fs := fun hm => by
      obtain ⟨en, hen, q⟩ := List.mem_filterMap.mp hm
      exact outside (List.mem_filterMap.mpr ⟨en, List.mem_cons_of_mem _ hen, q⟩)
    have notI : sI.heap.get? a = none := by
      cases q : sI.heap.get? a with
      | none => rfl
      | some o =>
        have q2 := inB a o q (by rw [hstk]; exact outside)
        rw [f3.2.1] at q2
        cases q2
    have not0 : X.s_0.heap.get? a = none := by
      cases q : X.s_0.heap.get? a with
      | none => rfl
      | some o =>
        obtain ⟨o', q2⟩ := J.base.there a o q (by rw [hex]; simp)
        rw [notI] at q2
        cases q2
    have notP : ∀ p ∈ X.pn ++ pins, p.1 ≠ a := fun p hp z => by
      have q := (J.pin p hp).1
      rw [z, notI] at q
      cases q
    have S3 := J3.suite at3 dat3 na nL nF
    refine wpAny_handleBy_cons (codeAny_handlers_test ?_) (by intro q; cases q)
    have look1 : PySem.W.Looks (model X.prog X.w) h3 (typeOf (.ref a)) cls := fun A Q E s k q => wpAny_typeOf_ref (k _ _ at3) (by rw [z3.1]; exact q)
    have look2 := PySem.W.exm_one (M := model X.prog X.w) (J3.kIn) look1 hb
    have ask : ∀ {Q : Value → Shared → Prop} {E : Value → Shared → Prop}, Q c { s' with heap := h3 } → wpAny (model X.prog X.w) (X.A.mark (some (.ref a))) (eval (.Name x np) X.env) Q E { s' with heap := h3 } := fun {Q E} q => by
      obtain ⟨g1, g2, g3 | ⟨g3, g4, g5⟩⟩ := hcls
      · exact ld_glob (X := X.suite a ((a, oe3) :: (X.pn ++ pins))) S3 g1 g3 q g2
      · exact ld_blt (X := X.suite a ((a, oe3) :: (X.pn ++ pins))) S3 g1 g3 g4 q g5 g2
    refine ask (look2.here ?_)
    cases b with
    | true =>
      refine codeAny_handlers_suite_as ?_
      refine HandSPX.lands_againZ f3 fun h4 f4 up4 => ?_
      have J4 : L2.Inv X pins σ' H' { s' with heap := h4 } := J.landed inB f4.1 ((up.trans up3).trans up4) eos gs
      obtain ⟨oe4, vs4, at4, z4, dat4⟩ := f4.there
      have S4 := suiteT (track J4 at4 dat4 na not0 nL notP) a
      refine store_ok (X := X.suite a (X.pn ++ pins)) (v := .ref a) S4 hnd hix (.inl hkind) rfl (fun s5 S5 => ?_) (.inr hkind)
      refine wpAny_mono ((hsuite a (X.pn ++ pins)).run [] s5 _ _ _ S5 (yes rfl a oe4 vs4 na z4 dat4)) (fun fl s6 hsp => ?_) (fun _ _ z => False.elim z)
      have fin : ∀ {σ6 : L2.St} {H6 : Hp} {Q : Shared → Prop}, L2.Inv (X.suite a (X.pn ++ pins)) [] σ6 H6 s6 → (∀ s7, L2.Inv X pins (σ6.set i none) H6 s7 → Q s7) →
          wpAny (model X.prog X.w) X.A (do bindName X.env n .none; unbindBehindTheSuite X.env n pos') (fun _ s7 => Q s7) X.xe s6 := fun {σ6 H6 Q} S6 hq => gone_ok (unsuiteT S6 okX) hnd hix hkind hq
      cases fl with
      | next =>
        obtain ⟨σ6, H6, S6, q6⟩ := hsp
        exact fin S6 fun s7 J7 => ⟨_, _, J7, q6⟩
      | brk =>
        obtain ⟨σ6, H6, S6, q6⟩ := hsp
        exact fin S6 fun s7 J7 => ⟨_, _, J7, q6⟩
      | cont =>
        obtain ⟨σ6, H6, S6, q6⟩ := hsp
        exact fin S6 fun s7 J7 => ⟨_, _, J7, q6⟩
      | ret u =>
        obtain ⟨v6, σ6, H6, S6, r6, q6⟩ := hsp
        exact fin S6 fun s7 J7 => ⟨_, _, _, J7, r6, q6⟩
    | false =>
      show wpAny _ X.A (handleBy (.ref a) X.env []) _ _ _
      refine wpAny_handleBy_nil ?_
      obtain ⟨k1, k2, k3, oe, vs, T, oT, ts', he, hz, hdt, h1, hrr⟩ := id f3
      unfold PySem.passOn
      refine wpAny_bind (wpAny_field he hdt h1 ?_)
      rw [if_neg (show ¬ ((Value.ref T == Value.none) = true) from by simp)]
      have away : wpAny (model X.prog X.w) X.A (setFlight (.ref a) X.env.frame) (fun _ s4 => wpAny (model X.prog X.w) X.A (throw (.ref a) : Sem Flow) (SP X pins D) X.xe s4) X.xe { s' with heap := h3 } := by
        rw [hfrm]
        refine HandSPX.setFlight_upZ f3 fun h4 hh4 up4 => wpAny_throw (tk _ _ ?_)
        exact ⟨a, B, sI, pins, σ', H', cls, d, rfl, J, inB, (up.trans up3).trans up4, .inr (.inr (by rw [hstk]; exact hh4)), na, eos, gs, no rfl⟩
      first
        | exact wpAny_bind (wpAny_pure (wpAny_bind away))
        | exact wpAny_bind away
  · cases fl with
    | next =>
      obtain ⟨σ', H', J', q⟩ := hsp
      exact wpAny_execs_nil ⟨σ', H', J'.ofTry okX, q⟩
    | brk =>
      obtain ⟨σ', H', J', q⟩ := hsp
      exact ⟨σ', H', J'.ofTry okX, q⟩
    | cont =>
      obtain ⟨σ', H', J', q⟩ := hsp
      exact ⟨σ', H', J'.ofTry okX, q⟩
    | ret u =>
      obtain ⟨v, σ', H', J', r, q⟩ := hsp
      exact ⟨v, σ', H', J'.ofTry okX, r, q⟩
end
section
variable {W : Wp} {Wx : L2.St → XK}
def clrI (i : Nat) (r : R Ct) : R Ct := match r with
  | .ok (.nx ρ) τ => .ok (.nx (ρ.set i none)) τ
  | .ok (.bk ρ) τ => .ok (.bk (ρ.set i none)) τ
  | .ok (.ct ρ) τ => .ok (.ct (ρ.set i none)) τ
  | .ok (.rt d) τ => .ok (.rt d) τ
  | _ => .no
def dTryH (exm : Str → Option Bool) (i : Nat) (δ δh : DS) : DS := fun ρ τ => match δ ρ τ with
  | .ok (.xc x ρ1) τ1 => match exm x.cls with
    | some true => clrI i (δh (ρ1.set i (some (.fr (.exc x.cls x.fs)))) τ1)
    | some false => .ok (.xc x ρ1) τ1
    | none => .no
  | r => r
theorem Ps.clr {Wz : L2.St → XK} {tp0 : Option Addr} {G0 G : GH} {H0 : Hp} {D : Ends} {i : Nat} {r : R Ct} (P : Ps W Wx tp0 G0 H0 G D (clrI i r)) : Ps W Wz tp0 G0 H0 G (endsT i D) r := by
  have un : ∀ {tp' : Option Addr} {G' : GH} {H' : Hp} {σ' : L2.St} {ρ : PEnv} {τ : TS'}, EnvS W tp0 G0 H0 tp' G' H' σ' ρ τ → EnvS W tp0 G0 H0 tp' G' H' (σ'.set i none) (ρ.set i none) τ := fun E => E.sub E.v.setN (Sub.set fun _ z => by cases z)
  match r, P with
  | .ok (.nx ρ) τ, P => exact fun tp' G' H' σ' s E => P tp' G' H' _ s (un E)
  | .ok (.bk ρ) τ, P => exact fun tp' G' H' σ' s E => P tp' G' H' _ s (un E)
  | .ok (.ct ρ) τ, P => exact fun tp' G' H' σ' s E => P tp' G' H' _ s (un E)
  | .ok (.rt d) τ, P => exact P
  | .ok (.ro d) τ, P => exact P.elim
  | .ok (.xc x ρ) τ, P => exact P.elim
  | .ex x τ, P => exact P.elim
  | .no, P => exact P.elim
theorem ds_tryH {tb : WX → L2.TS} {ts : L2.TS} {δ δh : DS} {c : Value} {i : Nat} {exm : Str → Option Bool} (hx : ∀ s b, exm s = some b → PySem.W.exmOne W.K (.ref (W.cm s)) c = some b)
    (hb : ∀ Wz : WX, DnS W (fun σ cls d H => Wz cls d σ H) (tb Wz) δ) (hh : DnS W (fun _ _ _ _ => False) ts δh) :
    DnS W Wx (fun D σ H => tb (wTrk W.K c i ts (fun cls d σ H => Wx σ cls d H) D) D σ H) (dTryH exm i δ δh) := fun tp0 G0 H0 tp G H σ ρ τ D E P => by
  refine hb _ _ _ _ _ _ _ _ _ _ _ E ?_
  unfold dTryH at P
  revert P
  match δ ρ τ with
  | .ok (.nx ρ') τ' => exact fun P => P
  | .ok (.bk ρ') τ' => exact fun P => P
  | .ok (.ct ρ') τ' => exact fun P => P
  | .ok (.rt d) τ' => exact fun P => P
  | .ok (.ro d) τ' => exact fun P => P
  | .ex x τ' => exact fun P => P
  | .no => exact fun P => P
  | .ok (.xc x ρ1) τ1 =>
    intro P d tp' G1 H1 σ1 s1 E1 hxr
    cases hm : exm x.cls with
    | none => simp only [hm] at P; exact P.elim
    | some b =>
      refine ⟨b, hx _ _ hm, fun hb1 a oe vs na z dt => ?_, fun hb0 => ?_⟩
      · subst hb1
        simp only [hm] at P
        obtain ⟨xs, hd, rf⟩ := hxr
        have E2 : EnvS W tp0 G0 H0 tp' (G1.upd a (exk a oe)) (upd H1 a (exk a oe)) σ1 ρ1 τ1 := E1.step (Ext.new na E1.v.g) (E1.v.new na)
        have sg : GS G1 (G1.upd a (exk a oe)) := GS.new (E1.v.g.free na)
        have r : Rp W.K W.cm (G1.upd a (exk a oe)) (.ref a) (.exc x.cls x.fs) := .exc upd_same z dt (hd.mono sg.s) (rf.mono sg)
        have E3 := (E2.setF (i := i) r)
        exact hh _ _ _ _ _ _ _ _ _ _ E3 (Ps.clr (Ps.shift P (s1.trans sg)))
      · subst hb0
        simp only [hm] at P
        exact P d tp' G1 H1 σ1 s1 E1 hxr
end
end Np
set_option Elab.async false
set_option linter.all false
set_option maxRecDepth 100000
set_option maxHeartbeats 4000000
namespace Np
open PySem PySem.Spec PyProof.Rows L2
section
variable {W : Wp} {Wx : L2.St → XK} {tr tk : TA} {δr δk : DA}
def dIEnumT (a : DA) : DI := fun ρ τ => (a ρ τ).bind fun x τ1 => match x with
  | [.tup ds] => .ok (enumD ds) τ1
  | _ => .no
end
end Np
set_option Elab.async false
set_option linter.all false
set_option maxRecDepth 100000
set_option maxHeartbeats 4000000
namespace Np
open PySem PySem.Spec PyProof.Rows L2
def gMinD (ds : List DD) : Option DD := match ints? ds with
  | some [] => some .non
  | some (n :: ns) => some (.int (minL n ns))
  | none => none
def dMinD (a : DA) : DE := fun ρ τ => (a ρ τ).bind fun xs τ1 => match xs with
  | [.lst ds] => R.of τ1 (gMinD ds)
  | _ => .no
end Np
set_option Elab.async false
set_option linter.all false
set_option maxRecDepth 100000
set_option maxHeartbeats 4000000
namespace Np
open PySem PySem.Spec PyProof.Rows L2 LamX
end Np
set_option Elab.async false
set_option linter.all false
set_option maxRecDepth 100000
set_option maxHeartbeats 4000000
namespace Np
open PySem PySem.Spec PyProof.Rows L2 LamX
end Np
set_option Elab.async false
set_option linter.all false
set_option maxRecDepth 100000
set_option maxHeartbeats 4000000
namespace Np
open PySem PySem.Spec PyProof.Rows L2 LamX
/-- what the making leaves: only the table at P has grown -/
structure LamMade (T : List (Addr × Str)) (P : Addr) (H H' : Hp) : Prop where
  t : Tabs T H'
  k : ∀ b o, b ≠ P → H b = some o → H' b = some o
  x : ∀ b, H b ≠ none → H' b ≠ none
  p : ∀ o, H P = some o → o.tb = true
  m : ∃ q, (P, q) ∈ T
end Np
set_option Elab.async false
set_option linter.all false
set_option maxRecDepth 100000
set_option maxHeartbeats 4000000
namespace Np
open PySem PySem.Spec PyProof.Rows L2 LamX
section
variable {W : Wp} {Wx : L2.St → XK} {ta : TA} {δa : DA} {tb : TE} {δb : DE}
theorem LamMade.ext {P : Addr} {G : GH} {H H' : Hp} (M : LamMade W.T P H H') (g : SB W G H) : Ext none G H G H' ∧ SB W G H' := by
  have nP : ∀ b o, o.tb = false → H b = some o → b ≠ P := fun b o t e z => by
    have := M.p o (by rw [← z]; exact e)
    rw [t] at this
    cases this
  obtain ⟨q, hq⟩ := M.m
  exact ⟨⟨GS.refl _, fun p o _ t e => M.k p o (nP p o t e) e, fun _ _ _ h => h, M.x, fun _ => .inl, fun _ => rfl⟩, fun b o e => M.k b o (fun z => by rw [z, g.n _ hq] at e; cases e) (g.s b o e), M.t, g.n⟩
end
end Np
set_option Elab.async false
set_option linter.all false
set_option maxRecDepth 100000
set_option maxHeartbeats 4000000
namespace Np
open PySem PySem.Spec PyProof.Rows L2 LamX
/-- the law's promise; the tables are empty -/
def spLT (K : PySem.W.Frag) (T : List (Addr × Str)) : Sp := fun vs H Q E => spL K vs H Q E ∧ ∀ p ∈ T, H p.1 = some (.tbl #[])
end Np
set_option Elab.async false
set_option linter.all false
set_option maxRecDepth 100000
set_option maxHeartbeats 4000000
namespace Np
open PySem PySem.Spec PyProof.Rows L2 LamX
end Np
set_option Elab.async false
set_option linter.all false
set_option maxRecDepth 100000
set_option maxHeartbeats 4000000
namespace Np
open PySem PySem.Spec PyProof.Rows L2
end Np
set_option Elab.async false
set_option linter.all false
set_option maxRecDepth 100000
set_option maxHeartbeats 4000000
namespace Np
open PySem PySem.Spec PyProof.Rows L2
def gEqNil (ng : Bool) : DD → DD → Option DD
  | .lst xs, .lst [] => some (.bl (if ng = true then !xs.isEmpty else xs.isEmpty))
  | _, _ => none
section
variable {W : Wp}
@[simp] theorem gEqNil_eq {xs : List DD} {ng : Bool} : gEqNil ng (.lst xs) (.lst []) = some (.bl (if ng = true then !xs.isEmpty else xs.isEmpty)) := id rfl
end
end Np
set_option Elab.async false
set_option linter.all false
set_option maxRecDepth 100000
set_option maxHeartbeats 4000000
namespace Np
open PySem PySem.Spec PyProof.Rows L2
section
variable {W : Wp} {Wx : L2.St → XK} {tp0 tp tp' : Option Addr} {G0 G G' : GH} {H0 H H' : Hp} {σ : L2.St} {ρ : PEnv} {τ τ' : TS'} {D : Ends} {te tk tx : TE} {ta : TA} {δe δk δx : DE} {δa : DA}
theorem GS.ads (G : GH) (p : Addr) : GS G ⟨G.hp, G.ads ++ [p]⟩ := ⟨Same.refl _, List.prefix_append _ _⟩
/-- how the tape lies does not hang on the store -/
abbrev StW (W : Wp) : Prop := ∀ (t : Tau) (st : List Nd) (c : Addr), W.tk { t with st := st } c = W.tk t c
/-- a new thing -/
theorem EnvV.newM {a p : Addr} {o : HO} {t : Tau} {nd : Nd} (hW : StW W) (E : EnvV W (some a) G H σ ρ (some t)) (n : H p = none) (h : NdR W ⟨G.hp, G.ads ++ [p]⟩ (upd H p o) p nd) :
    Ext (some a) G H ⟨G.hp, G.ads ++ [p]⟩ (upd H p o) ∧ EnvV W (some a) ⟨G.hp, G.ads ++ [p]⟩ (upd H p o) σ ρ (some { t with st := t.st ++ [nd] }) ∧ (⟨G.hp, G.ads ++ [p]⟩ : GH).ads[t.st.length]? = some p := by
  have t0 : TapeR W G H a t := E.t
  have gp : G.hp p = none := E.g.free n
  have pa : p ∉ G.ads := fun z => by
    obtain ⟨u, hu, _⟩ := t0.s.nt p z
    rw [n] at hu
    cases hu
  have ap : a ≠ p := fun z => by
    obtain ⟨u, hu, _⟩ := t0.n
    rw [z, n] at hu
    cases hu
  have sn : Same H (upd H p o) := same_new n
  have gs : GS G ⟨G.hp, G.ads ++ [p]⟩ := ⟨Same.refl _, List.prefix_append _ _⟩
  have sb0 := E.g.trans sn
  have sb : SB W ⟨G.hp, G.ads ++ [p]⟩ (upd H p o) := ⟨sb0.s, sb0.t, sb0.n⟩
  have ex : Ext (some a) G H ⟨G.hp, G.ads ++ [p]⟩ (upd H p o) := ⟨gs, fun q u _ _ hq => sn q u hq, fun q _ _ hg => hg, fun q hq => by
    cases z : H q with
    | none => exact (hq z).elim
    | some u => rw [sn q u z]; simp, fun q hq => by
    rcases List.mem_append.mp hq with hq | hq
    · exact .inl hq
    · exact .inr (by rw [List.mem_singleton.mp hq]; exact n), fun z => (nomatch z)⟩
  have hl := t0.s.l
  refine ⟨ex, E.ext ex sb (show TapeR W _ _ a _ from ⟨t0.g, ?_, ?_, ?_⟩), by show (G.ads ++ [p])[t.st.length]? = some p; rw [hl]; simp⟩
  · obtain ⟨c, h1, h2⟩ := t0.c
    exact ⟨c, h1, by rw [hW]; exact sn a _ h2⟩
  · obtain ⟨u, h1, h2⟩ := t0.n
    exact ⟨u, sn a _ h1, h2⟩
  · refine ⟨by simp [hl], ?_, ?_, ?_, ?_⟩
    · show (G.ads ++ [p]).Nodup
      rw [List.nodup_append]
      exact ⟨t0.s.d, by simp, fun x hx y hy z => by
        rw [List.mem_singleton.mp hy] at z
        exact pa (by rw [← z]; exact hx)⟩
    · intro z
      rcases List.mem_append.mp z with z | z
      · exact t0.s.t z
      · exact ap (List.mem_singleton.mp z)
    · intro k nd' b h1 h2 h3
      by_cases hk : k < t.st.length
      · rw [List.getElem?_append_left hk] at h1
        have h2 : (G.ads ++ [p])[k]? = some b := h2
        rw [List.getElem?_append_left (by omega)] at h2
        exact t0.s.g k nd' b h1 h2 h3
      · have hk2 : k = t.st.length := by
          have := (List.getElem?_eq_some_iff.mp h1).1
          simp at this
          omega
        subst hk2
        have h2 : (G.ads ++ [p])[t.st.length]? = some b := h2
        rw [hl] at h2
        simp at h2
        subst h2
        exact gp
    · intro k nd' b h1 h2
      by_cases hk : k < t.st.length
      · rw [List.getElem?_append_left hk] at h1
        have h2 : (G.ads ++ [p])[k]? = some b := h2
        rw [List.getElem?_append_left (by omega)] at h2
        exact (t0.s.n k nd' b h1 h2).keep gs fun u hu => sn b u hu
      · have hk2 : k = t.st.length := by
          have := (List.getElem?_eq_some_iff.mp h1).1
          simp at this
          omega
        subst hk2
        rw [List.getElem?_append_right (Nat.le_refl _)] at h1
        simp at h1
        subst h1
        have h2 : (G.ads ++ [p])[t.st.length]? = some b := h2
        rw [hl] at h2
        simp at h2
        subst h2
        exact h
/-- where a thing lies, and what it is -/
theorem EnvV.sto {t : Tau} {k : Nat} {nd : Nd} {v : V} (E : EnvV W tp G H σ ρ (some t)) (r : Rp W.K W.cm G v (.ptr k)) (h : t.st[k]? = some nd) : ∃ a p, tp = some a ∧ v = .ref p ∧ p ∈ G.ads ∧ G.ads[k]? = some p ∧ NdR W G H p nd := by
  cases tp with
  | none => exact (show False from E.t).elim
  | some a =>
    have t0 : TapeR W G H a t := E.t
    cases r with
    | ptr hp => exact ⟨a, _, rfl, rfl, List.mem_of_getElem? hp, hp, t0.s.n k nd _ h hp⟩
/-- a thing is another one now -/
theorem EnvS.putM {a p : Addr} {o : HO} {t : Tau} {k : Nat} {nd nd' : Nd} (hW : StW W) (E : EnvS W tp0 G0 H0 (some a) G H σ ρ (some t)) (hk : G.ads[k]? = some p) (h : t.st[k]? = some nd) (nf : nd.isFz = false) (h' : NdR W G (upd H p o) p nd') : EnvS W tp0 G0 H0 (some a) G (upd H p o) σ ρ (some { t with st := t.st.set k nd' }) := by
  have t0 : TapeR W G H a t := E.v.t
  have pm := List.mem_of_getElem? hk
  have np := (t0.s.n k nd p h hk).nt
  have ap : a ≠ p := fun z => t0.s.t (by rw [z]; exact pm)
  have gp : G.hp p = none := t0.s.g k nd p h hk nf
  refine E.mutM (.inr ⟨pm, gp⟩) ⟨t0.g, ?_, ?_, ?_⟩ np
  · obtain ⟨c, h1, h2⟩ := t0.c
    exact ⟨c, h1, by rw [upd_ne ap, hW]; exact h2⟩
  · obtain ⟨u, h1, h2⟩ := t0.n
    exact ⟨u, by rw [upd_ne ap]; exact h1, h2⟩
  · refine ⟨by simp [t0.s.l], t0.s.d, t0.s.t, fun j u b h1 h2 h3 => ?_, fun j u b h1 h2 => ?_⟩
    · by_cases e : j = k
      · subst e
        rw [hk] at h2
        cases h2
        exact gp
      · have h1 : (t.st.set k nd')[j]? = some u := h1
        rw [List.getElem?_set_ne (by omega)] at h1
        exact t0.s.g j u b h1 h2 h3
    by_cases e : j = k
    · subst e
      rw [hk] at h2
      cases h2
      rw [List.getElem?_set_self (List.getElem?_eq_some_iff.mp h).1] at h1
      cases h1
      exact h'
    · have h1 : (t.st.set k nd')[j]? = some u := h1
      rw [List.getElem?_set_ne (by omega)] at h1
      have bp : b ≠ p := fun z => e (by
        subst z
        exact (List.getElem?_inj (List.getElem?_eq_some_iff.mp h2).1 t0.s.d).mp (h2.trans hk.symm))
      exact (t0.s.n j u b h1 h2).keep (GS.refl _) fun w hw => by rw [upd_ne bp]; exact hw
end
end Np
set_option Elab.async false
set_option linter.all false
set_option maxRecDepth 100000
set_option maxHeartbeats 4000000
namespace Np
open PySem PySem.Spec PyProof.Rows L2
section
variable {W : Wp} {Wx : L2.St → XK} {tp0 tp tp' : Option Addr} {G0 G G' : GH} {H0 H H' : Hp} {σ : L2.St} {ρ : PEnv} {τ τ' : TS'} {D : Ends} {te tk tx : TE} {ta : TA} {δe δk δx : DE} {δa : DA}
def ndOf : OC → Option Nd
  | .lst xs => some (.lst xs)
  | .dK kvs => some (.dK kvs)
  | .tr _ _ => none
def pushSt (t : Tau) (nd : Nd) : Tau := { t with st := t.st ++ [nd] }
def putSt (t : Tau) (k : Nat) (nd : Nd) : Tau := { t with st := t.st.set k nd }
def dSto (e : PEnv → TS' → R OC) : DE := fun ρ τ => (e ρ τ).bind fun c τ1 => match τ1 with
  | some t => match ndOf c with
    | some nd => .ok (.ptr t.st.length) (some (pushSt t nd))
    | none => .no
  | none => .no
def objAt (st : List Nd) (k : Nat) : Option (Str × List (Str × DD)) := match st[k]? with
  | some (.obj C fs) => some (C, fs)
  | some (.fz (.obj C fs)) => some (C, fs)
  | _ => none
theorem EnvV.objS {t : Tau} {k : Nat} {C : Str} {fs : List (Str × DD)} {v : V} (E : EnvV W tp G H σ ρ (some t)) (r : Rp W.K W.cm G v (.ptr k)) (h : objAt t.st k = some (C, fs)) : ∃ a p dx vs, tp = some a ∧ v = .ref p ∧ G.ads[k]? = some p ∧ H p = some (.ins (W.cm C) dx vs) ∧ RpF W.K W.cm G vs fs := by
  unfold objAt at h
  split at h
  · rename_i C' fs' hk
    cases h
    obtain ⟨a, p, e1, e2, _, e3, dx, vs, e4, e5⟩ := E.sto r hk
    exact ⟨a, p, dx, vs, e1, e2, e3, e4, e5⟩
  · rename_i C' fs' hk
    cases h
    obtain ⟨a, p, e1, e2, _, e3, _, e5⟩ := E.sto r hk
    cases e5 with | obj e6 e7 => exact ⟨a, p, _, _, e1, e2, e3, E.g _ _ e6, e7⟩
  · cases h
/-- x.f -/
def dSFld (cls f : Str) (a : DE) : DE := fun ρ τ => (a ρ τ).bind fun x τ1 => match x, τ1 with
  | .ptr k, some t => match objAt t.st k with
    | some (C, fs) => if C = cls then R.of τ1 (fs.lookup f) else .no
    | none => .no
  | _, _ => .no
theorem dn_sfld {cls f : Str} (hC : Cls W.K (W.cm cls)) (hn : NoAttr W.K (W.cm cls) f) (he : Dn W Wx te δe) : Dn W Wx (tFld W.K te f) (dSFld cls f δe) := fun tp G H σ ρ τ Q E P =>
  he _ _ _ _ _ _ _ E (P.bind fun a τ1 x G1 H1 e1 E1 r1 P1 => by
    split at P1
    · rename_i k t
      split at P1
      · rename_i C fs ho
        by_cases hc : C = cls
        · subst hc
          rw [if_pos rfl] at P1
          obtain ⟨y, hy, P2⟩ := P1.of
          obtain ⟨a, p, dx, vs, rfl, rfl, _, hp, rf⟩ := E1.objS r1 ho
          obtain ⟨v, hv, rv⟩ := rf.look hy
          exact ⟨p, _, dx, vs, v, rfl, hp, hC, hn, hv, P2 _ G1 H1 Ext.refl E1 rv⟩
        · rw [if_neg hc] at P1
          exact P1.elim
      · exact P1.elim
    · exact P1.elim)
/-- x.f = e -/
def dSFSet (cls f : Str) (o e : DE) : DS := fun ρ τ => stE (e ρ τ) ρ fun d τ1 => stE (o ρ τ1) ρ fun x τ2 => match x, τ2 with
  | .ptr k, some t => match t.st[k]? with
    | some (.obj C fs) => if C = cls ∧ fs.length < 1000 then .ok (.nx ρ) (some (putSt t k (.obj C (putD f d fs)))) else .no
    | _ => .no
  | _, _ => .no
theorem EnvS.putO {a p dx : Addr} {cls f : Str} {t : Tau} {k : Nat} {fs : List (Str × DD)} {vs : List (Str × V)} {v : V} {d : DD} (hW : StW W) (E : EnvS W tp0 G0 H0 (some a) G H σ ρ (some t)) (hk : G.ads[k]? = some p) (h : t.st[k]? = some (.obj cls fs)) (hp : H p = some (.ins (W.cm cls) dx vs)) (rf : RpF W.K W.cm G vs fs) (r : Rp W.K W.cm G v d) :
    EnvS W tp0 G0 H0 (some a) G (upd H p (.ins (W.cm cls) dx (putF f v vs))) σ ρ (some (putSt t k (.obj cls (putD f d fs)))) :=
  EnvS.putM hW E hk h rfl ⟨dx, _, upd_same, RpF.put r rf⟩
theorem ds_sfset {cls f : Str} (hW : StW W) (hC : Cls W.K (W.cm cls)) (hn : NoAttr W.K (W.cm cls) f) (ho : Dn W Wx tx δx) (he : Dn W Wx te δe) : DnS W Wx (sFld W.K tx te f) (dSFSet cls f δx δe) := fun tp0 G0 H0 tp G H σ ρ τ D E P =>
  he _ _ _ _ _ _ _ E.v (P.bind E fun d τ1 y G1 H1 E1 e1 r1 P1 => ho _ _ _ _ _ _ _ E1.v (P1.bind E1 fun u τ2 w G2 H2 E2 e2 r2 P2 => by
    split at P2
    · rename_i k t
      split at P2
      · rename_i C fs hk
        by_cases hc : C = cls ∧ fs.length < 1000
        · rw [if_pos hc] at P2
          obtain ⟨rfl, hl⟩ := hc
          obtain ⟨a, p, rfl, rfl, hm, hp, dx, vs, hv, rf⟩ := E2.v.sto r2 hk
          exact ⟨p, _, dx, vs, rfl, hv, hC, hn, by rw [RpF.len rf]; exact hl, P2 (some a) _ _ σ (GS.refl _) (EnvS.putO hW E2 hp hk hv rf (r1.mono e2.g))⟩
        · rw [if_neg hc] at P2
          exact P2.elim
      · exact P2.elim
    · exact P2.elim))
/-- x.f += e -/
def dSFAug (cls f : Str) (g : DD → DD → Option DD) (o e : DE) : DS := fun ρ τ => stE (o ρ τ) ρ fun x τ1 => match x, τ1 with
  | .ptr k, some t1 => match objAt t1.st k with
    | some (C, fs1) => if C = cls then match fs1.lookup f with
        | some v => stE (e ρ τ1) ρ fun y τ2 => match τ2 with
          | some t => match g v y, t.st[k]? with
            | some d, some (.obj C fs) => if C = cls ∧ fs.length < 1000 then .ok (.nx ρ) (some (putSt t k (.obj C (putD f d fs)))) else .no
            | _, _ => .no
          | none => .no
        | none => .no
      else .no
    | none => .no
  | _, _ => .no
theorem ds_sfaug {cls f : Str} {r : R2} {g : DD → DD → Option DD} (hW : StW W) (hC : Cls W.K (W.cm cls)) (hn : NoAttr W.K (W.cm cls) f) (hg : OpD W r g) (ho : Dn W Wx tx δx) (he : Dn W Wx te δe) : DnS W Wx (sFldAug W.K tx te r f) (dSFAug cls f g δx δe) := fun tp0 G0 H0 tp G H σ ρ τ D E P =>
  ho _ _ _ _ _ _ _ E.v (P.bind E fun u τ1 w G1 H1 E1 e1 r1 P1 => by
    split at P1
    · rename_i k t1
      split at P1
      · rename_i C fs1 ho1
        by_cases hc : C = cls
        · subst hc
          rw [if_pos rfl] at P1
          split at P1
          · rename_i d1 hd1
            obtain ⟨a, p, dx, vs, rfl, rfl, hk1, hp1, rf1⟩ := E1.v.objS r1 ho1
            obtain ⟨v, hv, rv⟩ := rf1.look hd1
            refine ⟨p, _, dx, vs, v, rfl, hp1, hC, hn, hv, he _ _ _ _ _ _ _ E1.v (P1.bind E1 fun y τ2 z G2 H2 E2 e2 r2 P2 => ?_)⟩
            split at P2
            · rename_i t
              split at P2
              · rename_i d C2 fs hgd hk
                by_cases hc : C2 = C ∧ fs.length < 1000
                · rw [if_pos hc] at P2
                  obtain ⟨rfl, hl⟩ := hc
                  refine hg G2 H2 v z d1 y d _ E2.v.g (rv.mono e2.g) r2 hgd fun x3 G3 H3 e3 g3 r3 => ?_
                  have E3 := E2.step e3.weak (E2.v.grow e3 g3)
                  obtain ⟨a', p', ea, ep, hm, hp, dx', vs', hv', rf⟩ := E3.v.sto (r1.mono (e2.g.trans e3.g)) hk
                  cases ea
                  cases ep
                  exact ⟨dx', vs', hv', by rw [RpF.len rf]; exact hl, P2 (some a) _ _ σ e3.g (EnvS.putO hW E3 hp hk hv' rf r3)⟩
                · rw [if_neg hc] at P2
                  exact P2.elim
              · exact P2.elim
            · exact P2.elim
          · exact P1.elim
        · rw [if_neg hc] at P1
          exact P1.elim
      · exact P1.elim
    · exact P1.elim)
def dSMeN (k : Nat) (cls m : Str) (F : Fn) (a : DE) (r : DPs) : DE := fun ρ τ => (a ρ τ).bind fun x τ1 => match x, τ1 with
  | .ptr q, some t => match objAt t.st q with
    | some (C, fs) => if C = cls ∧ fs.lookup m = none then (r ρ τ1).bind fun as τ2 => if as.length + 1 = k then (F (.fr (.ptr q) :: as) τ2).nox else .no
      else .no
    | none => .no
  | _, _ => .no
variable {tr : TA} {δr : DPs}
theorem dn_smeN {k : Nat} {cls m : Str} {C : Addr} {F : Fn} (hC : W.cm cls = C) (ha : Dn W Wx te δe) (hr : DnPs W Wx tr δr) : Dn W Wx (tMethE C m (spP W k F) W0 te tr) (dSMeN k cls m F δe δr) := fun tp G H σ ρ τ Q E P =>
  ha _ _ _ _ _ _ _ E (P.bind fun x τ1 v G1 H1 e1 E1 r1 P1 => by
    subst hC
    split at P1
    · rename_i q t
      split at P1
      · rename_i C fs ho
        by_cases h : C = cls ∧ fs.lookup m = none
        · rw [if_pos h] at P1
          obtain ⟨rfl, hl⟩ := h
          obtain ⟨a, p, dx, vs, rfl, rfl, _, hp, rf⟩ := E1.objS r1 ho
          refine ⟨p, dx, vs, rfl, hp, rf.lookN hl, hr _ _ _ _ _ _ _ E1 (P1.bind fun as τ2 zs G2 H2 e2 E2 r2 P2 => ?_)⟩
          by_cases hk : as.length + 1 = k
          · rw [if_pos hk] at P2
            refine ⟨by rw [List.length_cons, Paired.len r2]; exact hk, some a, G2, _, τ2, E2.g, .cons (show ArgR W (some a) G2 _ (.fr _) from r1.mono e2.g) r2, E2.t, ?_⟩
            revert P2
            cases F (.fr (.ptr q) :: as) τ2 with
            | ok d τ' => exact fun P1 v G' H' e s t r => P1 v G' H' e (E2.ext e s t) r
            | ex x τ' => exact fun P1 => P1.elim
            | no => exact fun P1 => P1.elim
          · rw [if_neg hk] at P2
            exact P2.elim
        · rw [if_neg h] at P1
          exact P1.elim
      · exact P1.elim
    · exact P1.elim)
/-- C(..): a new object that may change, its __init__ any def -/
def mkS (k : Nat) (cls : Str) (F : Fn) (as : List PV) (τ : TS') : R DD := match τ with
  | some t => if as.length + 1 = k then (F (.fr (.ptr t.st.length) :: as) (some (pushSt t (.obj cls [])))).bind fun d τ3 => match d with
      | .non => .ok (.ptr t.st.length) τ3
      | _ => .no
    else .no
  | none => .no
def dMkS (k n m : Nat) (cls : Str) (F : Fn) (g : List PV → List PV → List PV) (a b : DPs) : DE := fun ρ τ => (a ρ τ).bind fun as τ1 => (b ρ τ1).bind fun bs τ2 => if as.length = n ∧ bs.length = m then mkS k cls F (g as bs) τ2 else .no
def dMkSN (k n m : Nat) (cls : Str) (F : Fn) (g : List PV → List PV → List PV) (a b : DPs) : DE := fun ρ τ => (a ρ τ).bind fun as τ1 => (b ρ τ1).bind fun bs τ2 => if as.length = n ∧ bs.length = m then (mkS k cls F (g as bs) τ2).nox else .no
variable {tz : TA} {δz : DPs}
theorem mkS_run {k : Nat} {cls : Str} {F : Fn} {as : List PV} {vs : List V} {x dx : Addr} {Q : VK} {E' : XK} (hW : StW W) (E : EnvV W tp G H σ ρ τ) (r : Paired (ArgR W tp G) vs as) (nx : H x = none) (nd : H dx = none) (ne : dx ≠ x)
    (hq : match mkS k cls F as τ with
      | .ok d τ' => ∀ v G' H', Ext tp G H G' H' → EnvV W tp G' H' σ ρ τ' → Rp W.K W.cm G' v d → Q v H'
      | .ex y τ' => ∀ d G' H', Ext tp G H G' H' → EnvV W tp G' H' σ ρ τ' → ExR W G' H' y d → E' (.ref (W.cm y.cls)) d H'
      | .no => False) : spP W k F (.ref x :: vs) (upd (upd H dx (.own x)) x (.ins (W.cm cls) dx [])) (fun v H3 => v = .non ∧ Q (.ref x) H3) E' := by
  unfold mkS at hq
  cases τ with
  | none => exact hq.elim
  | some t =>
    cases tp with
    | none => exact (show False from E.t).elim
    | some a =>
      dsimp only at hq
      by_cases hk : as.length + 1 = k
      · rw [if_pos hk] at hq
        have nx' : upd H dx (.own x) x = none := by rw [upd_ne (Ne.symm ne)]; exact nx
        have e1 : Ext (some a) G H G (upd H dx (.own x)) := Ext.newH nd
        have E1 := E.newH (o := .own x) nd
        obtain ⟨e2, E2, h2⟩ := EnvV.newM hW E1 (nd := .obj cls []) (o := .ins (W.cm cls) dx []) nx' ⟨dx, [], upd_same, .nil⟩
        have E2 : EnvV W (some a) _ _ σ ρ (some (pushSt t (.obj cls []))) := E2
        have e12 := e1.trans e2
        refine ⟨by rw [List.length_cons, Paired.len r]; exact hk, some a, _, _, _, E2.g, .cons (show ArgR W (some a) _ _ (.fr (.ptr t.st.length)) from .ptr h2) (args_mono r e12.g), E2.t, ?_⟩
        generalize F (.fr (.ptr t.st.length) :: as) (some (pushSt t (.obj cls []))) = r0 at hq ⊢
        cases r0 with
        | ok d τ' =>
          intro v G' H' e s tt rv
          cases d <;> first | exact hq.elim | skip
          exact ⟨rv.non_of, hq (.ref x) G' H' (e12.trans e) (E2.ext e s tt) (.ptr (prefix_get e.g.a h2))⟩
        | ex y τ' => exact fun d G' H' e s tt hx => hq d G' H' (e12.trans e) (E2.ext e s tt) hx
        | no => exact hq.elim
      · rw [if_neg hk] at hq
        exact hq.elim
theorem dn_mkSN {k n m : Nat} {cls : Str} {C : Addr} {F : Fn} {dvs : List V} {dv : List PV} {ix : List Ix} (hW : StW W) (hC : W.cm cls = C) (hd : ∀ tp G, Paired (ArgR W tp G) dvs dv) (ha : DnPs W Wx tr δr) (hk : DnPs W Wx tz δz) :
    Dn W Wx (tMakeG C n m (spP W k F) (pickL dvs (.a 0 :: ix.map shIx)) W0 tr tz) (dMkSN k n m cls F (pickL dv ix) δr δz) := fun tp G H σ ρ τ Q E P =>
  ha _ _ _ _ _ _ _ E (P.bind fun as τ1 vs G1 H1 e1 E1 r1 P1 => hk _ _ _ _ _ _ _ E1 (P1.bind fun bs τ2 zs G2 H2 e2 E2 r2 P2 => by
    subst hC
    by_cases h : as.length = n ∧ bs.length = m
    · rw [if_pos h] at P2
      have r1' := args_mono r1 e2.g
      have hp := pick_rel (R := ArgR W tp G2) (hd tp G2) r1' r2 ix
      refine ⟨by rw [Paired.len r1']; exact h.1, by rw [Paired.len r2]; exact h.2, fun x dx nx nd ne => ?_⟩
      rw [pick_self]
      refine mkS_run hW E2 hp nx nd ne ?_
      revert P2
      cases mkS k cls F (pickL dv ix as bs) τ2 with
      | ok d τ' => exact fun P2 => P2
      | ex y τ' => exact fun P2 => P2.elim
      | no => exact fun P2 => P2
    · rw [if_neg h] at P2
      exact P2.elim))
def ddOf : Nd → Option DD
  | .lst xs => some (.lst xs)
  | .dK kvs => some (.dic kvs)
  | .obj C fs => some (.obj C fs)
  | _ => none
def lstAt (st : List Nd) (k : Nat) : Option (List DD) := match st[k]? with
  | some (.lst xs) => some xs
  | some (.fz (.lst xs)) => some xs
  | _ => none
end
end Np
namespace Np
open PySem PySem.Spec PyProof.Rows L2
theorem ps_fldaugK {X : Cx} (K : PySem.W.Frag) {o value : Expr} {f : Str} {pos tpos : Pos} {ta tv : TE} {op : Operator} {rd : V → V → Hp → VK → Prop} (ha : PE X o ta) (hv : PE X value tv) (hop : InOp X op rd) (hK : X.K = K := by rfl) : PS X (.AugAssign (.Attribute o f tpos) op value pos) (sFldAug K ta tv rd f) := by
  subst hK
  exact ps_fldaug ha hv hop
end Np
set_option Elab.async false
set_option linter.all false
set_option maxRecDepth 100000
set_option maxHeartbeats 4000000
namespace Np
open PySem PySem.Spec PyProof.Rows L2
section
variable {W : Wp} {Wx : L2.St → XK} {tp0 tp tp' : Option Addr} {G0 G G' : GH} {H0 H H' : Hp} {σ : L2.St} {ρ : PEnv} {τ τ' : TS'} {D : Ends} {te tk tx : TE} {ta : TA} {δe δk δx : DE} {δa : DA}
/-- list(x), x a list of the store -/
def dSLstF (a : DA) : PEnv → TS' → R OC := fun ρ τ => (a ρ τ).bind fun x τ1 => match x, τ1 with
  | [.ptr k], some t => match lstAt t.st k with
    | some xs => .ok (.lst xs) (some t)
    | none => .no
  | _, _ => .no
variable {a : DE} {l h : DO} {x d : DD} {t t1 t2 : Tau} {k : Nat} {xs : List DD} {lo hi : Option Int}
def eSLstF (r : R (List DD)) : R OC := r.bind fun x τ1 => match x, τ1 with
  | [.ptr k], some t => match lstAt t.st k with
    | some xs => .ok (.lst xs) (some t)
    | none => .no
  | _, _ => .no
@[simp] theorem ev_SLstF {a : DA} : dSLstF a ρ τ = eSLstF (a ρ τ) := id rfl
end
section
variable {ρ : PEnv} {τ : TS'} {t : Tau} {xs : List DD} {δ : PEnv → TS' → R OC}
def eSto (r : R OC) : R DD := r.bind fun c τ1 => match τ1 with
  | some t => match ndOf c with
    | some nd => .ok (.ptr t.st.length) (some (pushSt t nd))
    | none => .no
  | none => .no
@[simp] theorem ev_Sto : dSto δ ρ τ = eSto (δ ρ τ) := id rfl
@[simp] theorem eSto_lst : eSto (.ok (.lst xs) (some t)) = .ok (.ptr t.st.length) (some (pushSt t (.lst xs))) := id rfl
end
end Np
set_option Elab.async false
set_option linter.all false
set_option maxRecDepth 100000
set_option maxHeartbeats 4000000
namespace Np
open PySem PySem.Spec PyProof.Rows L2 LamX
end Np
set_option Elab.async false
set_option linter.all false
set_option maxRecDepth 100000
set_option maxHeartbeats 4000000
namespace Np
open PySem PySem.Spec PyProof.Rows L2 LamX
end Np
set_option Elab.async false
set_option linter.all false
set_option maxRecDepth 100000
set_option maxHeartbeats 4000000
namespace Np
open PySem PySem.Spec PyProof.Rows L2
end Np
set_option Elab.async false
set_option linter.all false
set_option maxRecDepth 100000
set_option maxHeartbeats 4000000
namespace Np
open PySem PySem.Spec PyProof.Rows L2
end Np
set_option Elab.async false
set_option linter.all false
set_option maxRecDepth 100000
set_option maxHeartbeats 4000000
namespace Np
open PySem PySem.Spec PyProof.Rows L2
def keyD : DD → Option Key
  | .int i => some (.inl i)
  | .str x => some (.inr x)
  | _ => none
def valD (kvs : List (Key × DD)) (k : Key) : Option DD := (kvs.find? fun kv => decide (kv.1 = k)).map (·.2)
def putKD (kvs : List (Key × DD)) (k : Key) (v : DD) : List (Key × DD) :=
  if (kvs.any fun kv => decide (kv.1 = k)) = true then kvs.map (fun kv => if kv.1 = k then (kv.1, v) else kv) else kvs ++ [(k, v)]
def mergeD (kvs more : List (Key × DD)) : List (Key × DD) := more.foldl (fun acc kv => putKD acc kv.1 kv.2) kvs
def keysDD : List (DD × DD) → Option (List (Key × DD))
  | [] => some []
  | (k, v) :: r => match keyD k, keysDD r with
    | some k, some r => some ((k, v) :: r)
    | _, _ => none
section
variable {K : PySem.W.Frag} {cm : CM} {H : GH}
theorem Rp.key {v : V} {d : DD} {k : Key} (r : Rp K cm H v d) (h : keyD d = some k) : v = kV k := by
  cases d <;> first | (cases h; done) | skip
  · cases h; exact r.int_of
  · cases h; exact r.str_of
theorem RpK.val : ∀ {xs : List (Key × V)} {ds : List (Key × DD)} (k : Key), RpK K cm H xs ds → (∃ v d, valV xs k = some v ∧ valD ds k = some d ∧ Rp K cm H v d) ∨ (valV xs k = none ∧ valD ds k = none)
  | _, _, k, .nil => .inr ⟨rfl, rfl⟩
  | (k', v) :: xs, (_, d) :: ds, k, .cons h r => by
    by_cases e : k' = k
    · refine .inl ⟨v, d, ?_, ?_, h⟩
      · unfold valV; rw [List.find?_cons_of_pos (by simpa using e)]; rfl
      · unfold valD; rw [List.find?_cons_of_pos (by simpa using e)]; rfl
    · have e1 : valV ((k', v) :: xs) k = valV xs k := by unfold valV; rw [List.find?_cons_of_neg (by simpa using e)]
      have e2 : valD ((k', d) :: ds) k = valD ds k := by unfold valD; rw [List.find?_cons_of_neg (by simpa using e)]
      rw [e1, e2]
      exact RpK.val k r
theorem RpK.any (k : Key) : ∀ {xs : List (Key × V)} {ds : List (Key × DD)}, RpK K cm H xs ds → (xs.any fun kv => decide (kv.1 = k)) = (ds.any fun kv => decide (kv.1 = k))
  | _, _, .nil => rfl
  | _, _, .cons h r => by rw [List.any_cons, List.any_cons, RpK.any k r]
theorem RpK.app : ∀ {xs xs' : List (Key × V)} {ds ds' : List (Key × DD)}, RpK K cm H xs ds → RpK K cm H xs' ds' → RpK K cm H (xs ++ xs') (ds ++ ds')
  | _, _, _, _, .nil, s => s
  | _, _, _, _, .cons h r, s => .cons h (RpK.app r s)
theorem RpK.over {k : Key} {v : V} {d : DD} (h : Rp K cm H v d) : ∀ {xs : List (Key × V)} {ds : List (Key × DD)}, RpK K cm H xs ds → RpK K cm H (xs.map fun kv => if kv.1 = k then (kv.1, v) else kv) (ds.map fun kv => if kv.1 = k then (kv.1, d) else kv)
  | _, _, .nil => .nil
  | (k', _) :: _, (_, _) :: _, .cons h' r => by
    rw [List.map_cons, List.map_cons]
    by_cases e : k' = k
    · rw [if_pos e, if_pos e]; exact .cons h (RpK.over h r)
    · rw [if_neg e, if_neg e]; exact .cons h' (RpK.over h r)
theorem RpK.put {xs : List (Key × V)} {ds : List (Key × DD)} {k : Key} {v : V} {d : DD} (r : RpK K cm H xs ds) (h : Rp K cm H v d) : RpK K cm H (putK xs k v) (putKD ds k d) := by
  unfold putK putKD
  rw [r.any k]
  split
  · exact r.over h
  · exact r.app (.cons h .nil)
theorem RpK.merge : ∀ {ys : List (Key × V)} {es : List (Key × DD)} {xs : List (Key × V)} {ds : List (Key × DD)}, RpK K cm H ys es → RpK K cm H xs ds → RpK K cm H (mergeK xs ys) (mergeD ds es)
  | _, _, _, _, .nil, s => s
  | _, _, _, _, .cons (k := k) h r, s => by
    have q := RpK.merge r (s.put (k := k) h)
    exact q
theorem RpK.len : ∀ {xs : List (Key × V)} {ds : List (Key × DD)}, RpK K cm H xs ds → xs.length = ds.length
  | _, _, .nil => rfl
  | _, _, .cons _ r => congrArg Nat.succ (RpK.len r)
end
section
variable {W : Wp} {Wx : L2.St → XK} {tp : Option Addr} {G G2 : GH} {H H2 : Hp} {σ : L2.St} {ρ : PEnv} {τ τ2 : TS'} {p : Addr} {o o1 : HO}
theorem Ext.fill (n : H p = none) (e : Ext tp G (upd H p o1) G2 H2) (n2 : G2 p = none) : Ext tp G H (G2.upd p o) (upd H2 p o) :=
  (((Ext.newH n).trans e).mut n).frzN n n2
theorem EnvV.fill (E : EnvV W tp G H σ ρ τ) (n : H p = none) (e : Ext tp G (upd H p o1) G2 H2) (E2 : EnvV W tp G2 H2 σ ρ τ2) (n2 : G2 p = none) (nm : NoM tp G2 p) (nt : NT H2 p) (ht : o.tb = false) : EnvV W tp (G2.upd p o) (upd H2 p o) σ ρ τ2 := by
  have f2 : FreeP W G2 H2 σ ρ p := (E.noO n).ext E ((Ext.newH n).trans e)
  have E3 := E2.mutH (o := o) n2 nm nt f2
  have f3 : FreeP W G2 (upd H2 p o) σ ρ p := fun j c a F h1 h2 w hp => by
    obtain ⟨F0, w0, _⟩ := E2.own h1 h2
    have w1 : OwR W G2 (upd H2 p o) a c F0 := w0.keep (GS.refl _) fun q hq u hu => by
      rw [upd_ne (fun z => f2 _ _ _ _ h1 h2 w0 (by rw [← z]; exact hq))]; exact hu
    rw [w.uniq w1] at hp
    exact f2 _ _ _ _ h1 h2 w0 hp
  exact E3.freeze n2 upd_same ht nm f3
def dPairs : List (DE × DE) → PEnv → TS' → R (List (DD × DD))
  | [], _, τ => .ok [] τ
  | (a, b) :: r, ρ, τ => (a ρ τ).bind fun x τ1 => (b ρ τ1).bind fun y τ2 => (dPairs r ρ τ2).bind fun ps τ3 => .ok ((x, y) :: ps) τ3
def dDisp (l : List (DE × DE)) : DE := fun ρ τ => (dPairs l ρ τ).bind fun ps τ1 => match keysDD ps with
  | some kvs => if kvs.length ≤ 15 then .ok (.dic (mergeD [] kvs)) τ1 else .no
  | none => .no
inductive DnPr (W : Wp) (Wx : L2.St → XK) : List (TE × TE) → List (DE × DE) → Prop
  | nil : DnPr W Wx [] []
  | cons {ta tb : TE} {δa δb : DE} {ts : List (TE × TE)} {ds : List (DE × DE)} : Dn W Wx ta δa → Dn W Wx tb δb → DnPr W Wx ts ds → DnPr W Wx ((ta, tb) :: ts) ((δa, δb) :: ds)
abbrev rPr (W : Wp) : Option Addr → GH → List (V × V) → List (DD × DD) → Prop := fun _ G => Paired fun p q => Rp W.K W.cm G p.1 q.1 ∧ Rp W.K W.cm G p.2 q.2
theorem pairs_run {ts : List (TE × TE)} {ds : List (DE × DE)} (h : DnPr W Wx ts ds) : ∀ tp G H σ ρ τ (Q : List (V × V) → Hp → Prop), EnvV W tp G H σ ρ τ → Pg W Wx (rPr W) tp σ ρ G H Q (dPairs ds ρ τ) → tPairs ts σ H Q := by
  induction h with
  | nil => exact fun tp G H σ ρ τ Q E P => P [] G H Ext.refl E .nil
  | cons ha hb _ ih =>
    intro tp G H σ ρ τ Q E P
    refine ha _ _ _ _ _ _ _ E (P.bind fun a τ1 x G1 H1 e1 E1 r1 P1 => hb _ _ _ _ _ _ _ E1 (P1.bind fun b τ2 y G2 H2 e2 E2 r2 P2 => ih _ _ _ _ _ _ _ E2 (P2.bind fun ps τ3 vs G3 H3 e3 E3 r3 P3 => ?_)))
    exact P3 ((x, y) :: vs) G3 H3 Ext.refl E3 (.cons ⟨Rp.mono e3.g (Rp.mono e2.g r1), Rp.mono e3.g r2⟩ r3)
theorem keys_vs : ∀ {ps : List (DD × DD)} {kvs : List (Key × DD)} {vs : List (V × V)}, keysDD ps = some kvs → (Paired fun p q => Rp W.K W.cm G p.1 q.1 ∧ Rp W.K W.cm G p.2 q.2) vs ps →
    ∃ ks : List (Key × V), vs = ks.map (fun kv => (kV kv.1, kv.2)) ∧ RpK W.K W.cm G ks kvs
  | [], _, _, h, .nil => by cases h; exact ⟨[], rfl, .nil⟩
  | (k, v) :: ps, _, _, h, .cons (a := x) q r => by
    unfold keysDD at h
    split at h
    · rename_i k' r' hk hr
      cases h
      obtain ⟨ks, e1, e2⟩ := keys_vs hr r
      refine ⟨(k', x.2) :: ks, ?_, .cons q.2 e2⟩
      rw [List.map_cons, ← e1, ← q.1.key hk]
    · cases h
theorem dn_disp {ts : List (TE × TE)} {ds : List (DE × DE)} (h : DnPr W Wx ts ds) : Dn W Wx (tDisp ts) (dDisp ds) := fun tp G H σ ρ τ Q E P p n => by
  have Ep : EnvV W tp G (upd H p (.dK [])) σ ρ τ := E.newH n
  refine pairs_run h _ _ _ _ _ _ _ Ep ?_
  revert P
  unfold dDisp
  generalize dPairs ds ρ τ = r
  cases r with
  | no => exact fun P => P
  | ex x τ1 =>
    intro P d G2 H2 e2 E2 hx
    exact P d G2 H2 ((Ext.newH n).trans e2) E2 hx
  | ok ps τ1 =>
    intro P vs G2 H2 e2 E2 rv
    simp only [R.bind_ok] at P
    split at P
    · rename_i kvs hk
      split at P
      · rename_i hl
        have pt : NoM tp G p := E.noM n
        have hp2 : H2 p = some (.dK []) := e2.h p _ pt rfl upd_same
        have gp : G p = none := E.g.free n
        have gp2 : G2 p = none := e2.f p pt (by rw [upd_same]; simp) gp
        have pt2 : NoM tp G2 p := e2.nom pt (by rw [upd_same]; simp)
        obtain ⟨ks, ev, rk⟩ := keys_vs hk rv
        refine ⟨hp2, ks, ev, by rw [rk.len]; exact hl, ?_⟩
        refine P _ (G2.upd p (.dK (mergeK [] ks))) _ (Ext.fill n e2 gp2) (E.fill n e2 E2 gp2 pt2 ⟨_, hp2, rfl⟩ rfl) (.dic upd_same ?_)
        exact ((RpK.merge rk .nil).mono (GS.new gp2))
      · exact P.elim
    · exact P.elim
end
section
variable {W : Wp} {Wx : L2.St → XK} {td ty tx : TE} {δd δy δx : DE}
def dDGet (d y : DE) : DE := fun ρ τ => (d ρ τ).bind fun x τ1 => (y ρ τ1).bind fun k τ2 => match x, keyD k with
  | .dic kvs, some k => R.of τ2 (valD kvs k)
  | _, _ => .no
theorem dn_dget (hd : Dn W Wx td δd) (hy : Dn W Wx ty δy) : Dn W Wx (tDGet td ty) (dDGet δd δy) := fun tp G H σ ρ τ Q E P =>
  hd _ _ _ _ _ _ _ E (P.bind fun a τ1 x G1 H1 e1 E1 r1 P1 => hy _ _ _ _ _ _ _ E1 (P1.bind fun b τ2 y G2 H2 e2 E2 r2 P2 => by
    split at P2
    · rename_i kvs k hk
      obtain ⟨v, hv, P3⟩ := P2.of
      cases r1 with | dic h rk =>
      rename_i ad xs
      have h2 := E2.g _ _ (e2.g _ _ h)
      rcases (rk.mono e2.g).val k with ⟨u, d, q1, q2, q3⟩ | ⟨_, q2⟩
      · rw [hv] at q2
        cases q2
        refine ⟨ad, u, rfl, ?_, P3 _ G2 H2 Ext.refl E2 q3⟩
        rw [r2.key hk, ← q1]
        exact DGet.k h2
      · rw [hv] at q2
        cases q2
    · exact P2.elim))
def dDIn (neg : Bool) (y d : DE) : DE := fun ρ τ => (y ρ τ).bind fun k τ1 => (d ρ τ1).bind fun x τ2 => match x, keyD k with
  | .dic kvs, some k => .ok (.bl (if neg then !(valD kvs k).isSome else (valD kvs k).isSome)) τ2
  | _, _ => .no
def dDGet2 (d y x : DE) : DE := fun ρ τ => (d ρ τ).bind fun c τ1 => match c with
  | .dic kvs => (y ρ τ1).bind fun k τ2 => (x ρ τ2).bind fun z τ3 => match keyD k with
    | some k => .ok ((valD kvs k).getD z) τ3
    | none => .no
  | _ => .no
end
end Np
set_option Elab.async false
set_option linter.all false
set_option maxRecDepth 100000
set_option maxHeartbeats 4000000
namespace Np
open PySem PySem.Spec PyProof.Rows L2
def tbl : List Str → List Bool → Str → Option Bool
  | n :: ns, v :: vs, s => if s = n then some v else tbl ns vs s
  | _, _, _ => none
section
variable {W : Wp} {Wx : L2.St → XK} {ta : TA} {δa : DA}
def hStrX (F : Fn) (C : Str) (fs : List (Str × DD)) (τ1 : TS') : R DD := (F [.fr (.exc C fs)] τ1).nox.bind fun d τ2 => match d with
  | .str z => .ok (.str z) τ2
  | _ => .no
def dStrX3 (c1 : Str) (F1 : Fn) (c2 : Str) (F2 : Fn) (c3 : Str) (F3 : Fn) (a : DA) : DE := fun ρ τ => (a ρ τ).bind fun xs τ1 => match xs with
  | [.exc C fs] => if C = c1 then hStrX F1 C fs τ1 else if C = c2 then hStrX F2 C fs τ1 else if C = c3 then hStrX F3 C fs τ1 else .no
  | _ => .no
end
def gStrA : DD → Option DD
  | .int i => if i.natAbs.log2 < 1920 then some (.str (toString i)) else none
  | .str x => some (.str x)
  | .non => some (.str "None")
  | _ => none
end Np
set_option Elab.async false
set_option linter.all false
set_option maxRecDepth 100000
set_option maxHeartbeats 4000000
namespace Np
open PySem PySem.Spec PyProof.Rows L2
structure GDict (P : Program) (w : World) (K : PySem.W.Frag) (a : Addr) (kvs : List (Key × V)) : Prop where
  low : (a == sysModules) = false
  ht : ∀ h, K.In h → ∃ vs, KV kvs vs ∧ h.DictOf (mixKind P w) a vs
/-- entries and what they stand for -/
def Ents (w : World) : List DictEntry → List (Key × V) → Prop := Paired fun e p => e.hash = keyH w p.1 ∧ keyIs p.1 e.key = true ∧ RelV p.2 e.val
theorem ents_kv {w : World} : ∀ {es : List DictEntry} {kvs : List (Key × V)}, Ents w es kvs → KV kvs (es.zip kvs |>.map fun z => (z.2.1, z.1.val))
  | _, _, .nil => .nil
  | _, _, .cons h r => .cons ⟨rfl, h.2.2⟩ (ents_kv r)
theorem ents_keys {w : World} {P : Program} : ∀ {es : List DictEntry} {kvs : List (Key × V)}, Ents w es kvs → ∀ e ∈ es, ∃ k, (mixKind P w).is k e.key = true ∧ e.hash = (mixKind P w).hash k
  | _, _, .nil, e, he => by cases he
  | _, _, .cons h r, e, he => by
    rcases List.mem_cons.mp he with rfl | he
    · exact ⟨_, h.2.1, h.1⟩
    · exact ents_keys r e he
theorem ents_pairs {w : World} {P : Program} : ∀ {es : List DictEntry} {kvs : List (Key × V)}, Ents w es kvs → Pairs (mixKind P w) es (es.zip kvs |>.map fun z => (z.2.1, z.1.val))
  | _, _, .nil => .nil
  | _, _, .cons h r => .cons h.2.1 rfl (ents_pairs r)
theorem ents_fst {w : World} : ∀ {es : List DictEntry} {kvs : List (Key × V)}, Ents w es kvs → ((es.zip kvs |>.map fun z => (z.2.1, z.1.val)).map (·.1)) = kvs.map (·.1)
  | _, _, .nil => rfl
  | _, _, .cons h r => by
    have := ents_fst r
    simp only [List.zip_cons_cons, List.map_cons] at this ⊢
    rw [this]
theorem GDict.of {P : Program} {w : World} {K : PySem.W.Frag} {a : Addr} {es : Array DictEntry} {n : Nat} {kvs : List (Key × V)} (hl : K.lookup a = some ⟨.type "dict", none, .dict es n, #[]⟩) (low : (a == sysModules) = false) (h : Ents w es.toList kvs) (nd : (kvs.map (·.1)).Nodup) : GDict P w K a kvs :=
  ⟨low, fun h' hi => ⟨_, ents_kv h, ⟨_, es, n, hi _ _ hl, ⟨rfl, rfl, rfl⟩, rfl, fun e he => ents_keys h e (by simpa using he), ents_pairs h, by rw [ents_fst h]; exact nd⟩⟩⟩
def tv (kvs : List (Key × Str)) : List (Key × V) := kvs.map fun p => (p.1, .str p.2)
end Np
set_option Elab.async false
set_option linter.all false
set_option maxRecDepth 100000
set_option maxHeartbeats 4000000
namespace Np
open PySem PySem.Spec PyProof.Rows L2
structure GDictI (P : Program) (w : World) (K : PySem.W.Frag) (a : Addr) (kvs : List (Key × V)) (o : Obj) (es : Array DictEntry) (ep : Nat) : Prop where
  low : (a == sysModules) = false
  lk : K.lookup a = some o
  ex : o.ExactDict
  dt : o.data = .dict es ep
  sz : es.size = kvs.length
  en : Ents w es.toList kvs
  nd : (kvs.map (·.1)).Nodup
theorem GDictI.of {P : Program} {w : World} {K : PySem.W.Frag} {a : Addr} {es : Array DictEntry} {n : Nat} {kvs : List (Key × V)} (hl : K.lookup a = some ⟨.type "dict", none, .dict es n, #[]⟩) (low : (a == sysModules) = false) (h : Ents w es.toList kvs) (nd : (kvs.map (·.1)).Nodup) : GDictI P w K a kvs ⟨.type "dict", none, .dict es n, #[]⟩ es n :=
  ⟨low, hl, ⟨rfl, rfl, rfl⟩, rfl, by rw [← Array.length_toList]; exact Paired.length h, h, nd⟩
theorem GDictI.at {P : Program} {w : World} {K : PySem.W.Frag} {a : Addr} {kvs : List (Key × V)} {o : Obj} {es : Array DictEntry} {ep : Nat} (D : GDictI P w K a kvs o es ep) {h : Heap} (hi : K.In h) :
    ∃ vs : List (Key × Value), h.get? a = some o ∧ KV kvs vs ∧ h.DictAt (mixKind P w) a vs ep :=
  ⟨_, hi _ _ D.lk, ents_kv D.en, o, es, hi _ _ D.lk, D.ex, D.dt, fun e he => ents_keys D.en e (by simpa using he), ents_pairs D.en, by rw [ents_fst D.en]; exact D.nd⟩
end Np
set_option Elab.async false
set_option linter.all false
set_option maxRecDepth 100000
set_option maxHeartbeats 4000000
namespace Np
open PySem PySem.Spec PyProof.Rows L2
section
variable {W : Wp} {Wx : L2.St → XK}
theorem RpA.dropLast {K : PySem.W.Frag} {cm : CM} {H : GH} : ∀ {v : List V} {d : List DD}, RpA K cm H v d → RpA K cm H v.dropLast d.dropLast
  | _, _, .nil => .nil
  | _, _, .cons a .nil => .nil
  | _, _, .cons a (.cons b r) => .cons a (RpA.dropLast (.cons b r))
def dPop2 (i j k l : Nat) : DS := fun ρ τ => match ρ[i]?, ρ[j]? with
  | some (some (.ow (.lst xs))), some (some (.ow (.lst ys))) => if i = j then .no else match xs[xs.length - 1]?, ys[ys.length - 1]? with
    | some x, some y => .ok (.nx ((((ρ.set i (some (.ow (.lst xs.dropLast)))).set j (some (.ow (.lst ys.dropLast)))).set k (some (.fr x))).set l (some (.fr y)))) τ
    | _, _ => .no
  | _, _ => .no
def ePop2 (o1 o2 : Option (Option PV)) (i j k l : Nat) (ρ : PEnv) (τ : TS') : R Ct := match o1, o2 with
  | some (some (.ow (.lst xs))), some (some (.ow (.lst ys))) => if i = j then .no else match xs[xs.length - 1]?, ys[ys.length - 1]? with
    | some x, some y => .ok (.nx ((((ρ.set i (some (.ow (.lst xs.dropLast)))).set j (some (.ow (.lst ys.dropLast)))).set k (some (.fr x))).set l (some (.fr y)))) τ
    | _, _ => .no
  | _, _ => .no
@[simp] theorem ev_Pop2 {i j k l : Nat} {ρ : PEnv} {τ : TS'} : dPop2 i j k l ρ τ = ePop2 ρ[i]? ρ[j]? i j k l ρ τ := by
  unfold dPop2 ePop2
  rfl
end
end Np
set_option Elab.async false
set_option linter.all false
set_option maxRecDepth 100000
set_option maxHeartbeats 4000000
namespace Np
open PySem PySem.Spec PyProof.Rows L2
/-- a handler: the class's name and where that stands, the name, the suite -/
structure HdS where
  x : Str
  np : Pos
  n : Str
  i : Nat
  c : Value
  b₀ : Stmt
  suite : List Stmt
  pos : Pos
  ts : TS
def HdS.h (h : HdS) : ExceptHandler := .ExceptHandler (some (.Name h.x h.np)) (some h.n) (h.b₀ :: h.suite) h.pos
end Np
set_option Elab.async false
set_option linter.all false
set_option maxRecDepth 100000
set_option maxHeartbeats 4000000
namespace Np
open PySem PySem.Spec PyProof.Rows L2
mutual
def noLs : DD → Bool
  | .lst _ => false
  | .tup ds => noLsA ds
  | .tux ds => noLsA ds
  | .dic ks => noLsK ks
  | .obj _ fs => noLsF fs
  | .exc _ fs => noLsF fs
  | _ => true
def noLsA : List DD → Bool
  | [] => true
  | d :: ds => noLs d && noLsA ds
def noLsK : List (Key × DD) → Bool
  | [] => true
  | (_, d) :: ds => noLs d && noLsK ds
def noLsF : List (Str × DD) → Bool
  | [] => true
  | (_, d) :: ds => noLs d && noLsF ds
end
section
variable {W : Wp} {Wx : L2.St → XK} {tp : Option Addr} {G G1 G2 : GH} {H H2 : Hp} {σ : L2.St} {ρ : PEnv} {τ : TS'} {te : TE} {φ : PEnv → TS' → R OC}
def dBorF (i : Nat) (φ : PEnv → TS' → R OC) : PEnv → TS' → R OC := fun ρ τ => match ρ[i]? with
  | some (some (.ow (.lst zs))) => match φ (bor i (.lst zs) ρ) none with
    | .ok (.lst xs) _ => if noLsA xs = true then .ok (.lst xs) τ else .no
    | _ => .no
  | _ => .no
end
end Np
set_option Elab.async false
set_option linter.all false
set_option maxRecDepth 100000
set_option maxHeartbeats 4000000
namespace Np
open PySem PySem.Spec PyProof.Rows L2
def gRevX : DD → Option DD
  | .tux ds => some (.tux ds.reverse)
  | _ => none
section
variable {W : Wp} {Wx : L2.St → XK} {ta : TE} {δa : DE} {ρ : PEnv} {τ : TS'}
def dRevF (δ : DE) : PEnv → TS' → R OC := fun ρ τ => (δ ρ τ).bind fun d τ1 => match d with
  | .lst xs => .ok (.lst xs.reverse) τ1
  | _ => .no
def eRevF (r : R DD) : R OC := r.bind fun d τ1 => match d with
  | .lst xs => .ok (.lst xs.reverse) τ1
  | _ => .no
@[simp] theorem ev_RevF : dRevF δa ρ τ = eRevF (δa ρ τ) := id rfl
@[simp] theorem eRevF_ok {xs : List DD} : eRevF (.ok (.lst xs) τ) = .ok (.lst xs.reverse) τ := id rfl
@[simp] theorem eRevF_ex {x : Ex} : eRevF (.ex x τ) = .ex x τ := id rfl
def eBorF (o : Option (Option PV)) (i : Nat) (φ : PEnv → TS' → R OC) (ρ : PEnv) (τ : TS') : R OC := match o with
  | some (some (.ow (.lst zs))) => match φ (bor i (.lst zs) ρ) none with
    | .ok (.lst xs) _ => if noLsA xs = true then .ok (.lst xs) τ else .no
    | _ => .no
  | _ => .no
def eBorF2 (r : R OC) (τ : TS') : R OC := match r with
    | .ok (.lst xs) _ => if noLsA xs = true then .ok (.lst xs) τ else .no
    | _ => .no
@[simp] theorem ev_BorF {i : Nat} {φ : PEnv → TS' → R OC} : dBorF i φ ρ τ = eBorF ρ[i]? i φ ρ τ := id rfl
@[simp] theorem eBorF_ok {i : Nat} {φ : PEnv → TS' → R OC} {zs : List DD} : eBorF (some (some (.ow (.lst zs)))) i φ ρ τ = eBorF2 (φ (bor i (.lst zs) ρ) none) τ := id rfl
@[simp] theorem eBorF2_ok {xs : List DD} {τ' : TS'} : eBorF2 (.ok (.lst xs) τ') τ = if noLsA xs = true then .ok (.lst xs) τ else .no := id rfl
end
@[simp] theorem gRevX_eq {ds : List DD} : gRevX (.tux ds) = some (.tux ds.reverse) := id rfl
end Np
set_option Elab.async false
set_option linter.all false
set_option maxRecDepth 100000
set_option maxHeartbeats 4000000
namespace Np
open PySem PySem.Spec PyProof.Rows L2
structure RoomQ (k : Nat) (A : Around) : Prop where
  dp : A.depth + 3 * k + 5 < recursionLimit
  un : A.units + 16 * k + 200 < cLine
theorem RoomQ.of {k j : Nat} {A B : Around} (h : Room k A) (d : B.depth = A.depth) (u : B.units = A.units) (e : j ≤ k) : RoomQ j B := ⟨by have := h.dp; omega, by have := h.un; omega⟩
/-- A with nothing handled -/
def calmed (A : Around) : Around := { A with handled := none }
theorem RoomQ.calm {k : Nat} {A : Around} (h : RoomQ k A) : Room k (calmed A) := ⟨rfl, h.dp, h.un⟩
end Np
set_option Elab.async false
set_option linter.all false
set_option maxRecDepth 100000
set_option maxHeartbeats 4000000
namespace Np
open PySem PySem.Spec PyProof.Rows L2 CwR
end Np
set_option Elab.async false
set_option linter.all false
set_option maxRecDepth 100000
set_option maxHeartbeats 4000000
namespace Np
open PySem PySem.Spec PyProof.Rows L2 CwR
end Np
set_option Elab.async false
set_option linter.all false
set_option maxRecDepth 100000
set_option maxHeartbeats 4000000
namespace Np
open PySem PySem.Spec PyProof.Rows L2 CwR
end Np
set_option Elab.async false
set_option linter.all false
set_option maxRecDepth 100000
set_option maxHeartbeats 4000000
namespace Np
open PySem PySem.Spec PyProof.Rows L2
end Np
set_option Elab.async false
set_option linter.all false
set_option maxRecDepth 100000
namespace Np
open PySem PySem.Spec PyProof.Rows L2
section
variable {ρ : PEnv} {τ τ' : TS'} {a b d x y : DE} {δ δh : DS} {c z : DD} {k : Key} {kvs : List (Key × DD)} {l : List (DE × DE)} {ps : List (DD × DD)} {da : DA} {e : Ex}
def ePr3 (r : R (List (DD × DD))) (x y : DD) : R (List (DD × DD)) := r.bind fun ps τ3 => .ok ((x, y) :: ps) τ3
def ePr2 (r : R DD) (x : DD) (l : List (DE × DE)) (ρ : PEnv) : R (List (DD × DD)) := r.bind fun y τ2 => (dPairs l ρ τ2).bind fun ps τ3 => .ok ((x, y) :: ps) τ3
def ePr1 (r : R DD) (b : DE) (l : List (DE × DE)) (ρ : PEnv) : R (List (DD × DD)) := r.bind fun x τ1 => (b ρ τ1).bind fun y τ2 => (dPairs l ρ τ2).bind fun ps τ3 => .ok ((x, y) :: ps) τ3
@[simp] theorem dPairs_nil : dPairs [] ρ τ = .ok [] τ := id rfl
@[simp] theorem dPairs_cons : dPairs ((a, b) :: l) ρ τ = ePr1 (a ρ τ) b l ρ := id rfl
@[simp] theorem ePr1_ok : ePr1 (.ok c τ) b l ρ = ePr2 (b ρ τ) c l ρ := id rfl
@[simp] theorem ePr2_ok : ePr2 (.ok z τ) c l ρ = ePr3 (dPairs l ρ τ) c z := id rfl
@[simp] theorem ePr3_ok : ePr3 (.ok ps τ) c z = .ok ((c, z) :: ps) τ := id rfl
def hDisp (o : Option (List (Key × DD))) (τ : TS') : R DD := match o with
  | some kvs => if kvs.length ≤ 15 then .ok (.dic (mergeD [] kvs)) τ else .no
  | none => .no
def eDisp (r : R (List (DD × DD))) : R DD := r.bind fun ps τ1 => hDisp (keysDD ps) τ1
@[simp] theorem ev_Disp : dDisp l ρ τ = eDisp (dPairs l ρ τ) := id rfl
@[simp] theorem eDisp_ok : eDisp (.ok ps τ) = hDisp (keysDD ps) τ := id rfl
@[simp] theorem hDisp_ok : hDisp (some kvs) τ = if kvs.length ≤ 15 then .ok (.dic (mergeD [] kvs)) τ else .no := id rfl
@[simp] theorem keysDD_nil : keysDD [] = some [] := id rfl
def kc2 (k : Option Key) (v : DD) (r : Option (List (Key × DD))) : Option (List (Key × DD)) := match k, r with
  | some k, some r => some ((k, v) :: r)
  | _, _ => none
@[simp] theorem keysDD_cons : keysDD ((c, z) :: ps) = kc2 (keyD c) z (keysDD ps) := id rfl
@[simp] theorem kc2_ok : kc2 (some k) z (some kvs) = some ((k, z) :: kvs) := id rfl
@[simp] theorem keyD_int {i : Int} : keyD (.int i) = some (.inl i) := id rfl
@[simp] theorem keyD_str {i : PySem.Str} : keyD (.str i) = some (.inr i) := id rfl
def hGet (c : DD) (o : Option Key) (τ : TS') : R DD := match c, o with
  | .dic kvs, some k => R.of τ (valD kvs k)
  | _, _ => .no
def eGet2 (r : R DD) (c : DD) : R DD := r.bind fun k τ2 => hGet c (keyD k) τ2
def eGet1 (r : R DD) (y : DE) (ρ : PEnv) : R DD := r.bind fun x τ1 => (y ρ τ1).bind fun k τ2 => hGet x (keyD k) τ2
@[simp] theorem ev_DGet : dDGet d y ρ τ = eGet1 (d ρ τ) y ρ := id rfl
@[simp] theorem eGet1_ok : eGet1 (.ok c τ) y ρ = eGet2 (y ρ τ) c := id rfl
@[simp] theorem eGet2_ok : eGet2 (.ok z τ) c = hGet c (keyD z) τ := id rfl
@[simp] theorem hGet_ok : hGet (.dic kvs) (some k) τ = R.of τ (valD kvs k) := id rfl
def hIn (neg : Bool) (c : DD) (o : Option Key) (τ : TS') : R DD := match c, o with
  | .dic kvs, some k => .ok (.bl (if neg then !(valD kvs k).isSome else (valD kvs k).isSome)) τ
  | _, _ => .no
def eIn2 (r : R DD) (neg : Bool) (k : DD) : R DD := r.bind fun x τ2 => hIn neg x (keyD k) τ2
def eIn1 (r : R DD) (neg : Bool) (d : DE) (ρ : PEnv) : R DD := r.bind fun k τ1 => (d ρ τ1).bind fun x τ2 => hIn neg x (keyD k) τ2
@[simp] theorem ev_DIn {neg : Bool} : dDIn neg y d ρ τ = eIn1 (y ρ τ) neg d ρ := id rfl
@[simp] theorem eIn1_ok {neg : Bool} : eIn1 (.ok c τ) neg d ρ = eIn2 (d ρ τ) neg c := id rfl
@[simp] theorem eIn2_ok {neg : Bool} : eIn2 (.ok z τ) neg c = hIn neg z (keyD c) τ := id rfl
@[simp] theorem hIn_f : hIn false (.dic kvs) (some k) τ = .ok (.bl (valD kvs k).isSome) τ := id rfl
@[simp] theorem hIn_t : hIn true (.dic kvs) (some k) τ = .ok (.bl (!(valD kvs k).isSome)) τ := id rfl
def hGt3 (kvs : List (Key × DD)) (o : Option Key) (z : DD) (τ : TS') : R DD := match o with
  | some k => .ok ((valD kvs k).getD z) τ
  | none => .no
def eGt3 (r : R DD) (kvs : List (Key × DD)) (k : DD) : R DD := r.bind fun z τ3 => hGt3 kvs (keyD k) z τ3
def eGt2 (r : R DD) (kvs : List (Key × DD)) (x : DE) (ρ : PEnv) : R DD := r.bind fun k τ2 => (x ρ τ2).bind fun z τ3 => hGt3 kvs (keyD k) z τ3
def eGt1 (r : R DD) (y x : DE) (ρ : PEnv) : R DD := r.bind fun c τ1 => match c with
  | .dic kvs => (y ρ τ1).bind fun k τ2 => (x ρ τ2).bind fun z τ3 => hGt3 kvs (keyD k) z τ3
  | _ => .no
@[simp] theorem ev_DGet2 : dDGet2 d y x ρ τ = eGt1 (d ρ τ) y x ρ := id rfl
@[simp] theorem eGt1_ok : eGt1 (.ok (.dic kvs) τ) y x ρ = eGt2 (y ρ τ) kvs x ρ := id rfl
@[simp] theorem eGt2_ok : eGt2 (.ok c τ) kvs x ρ = eGt3 (x ρ τ) kvs c := id rfl
@[simp] theorem eGt3_ok : eGt3 (.ok z τ) kvs c = hGt3 kvs (keyD c) z τ := id rfl
@[simp] theorem hGt3_ok : hGt3 kvs (some k) z τ = .ok ((valD kvs k).getD z) τ := id rfl
def hStr3 (c1 : PySem.Str) (F1 : Fn) (c2 : PySem.Str) (F2 : Fn) (c3 : PySem.Str) (F3 : Fn) (C : PySem.Str) (fs : List (PySem.Str × DD)) (τ1 : TS') : R DD :=
  if C = c1 then hStrX F1 C fs τ1 else if C = c2 then hStrX F2 C fs τ1 else if C = c3 then hStrX F3 C fs τ1 else .no
def eStr3 (r : R (List DD)) (c1 : PySem.Str) (F1 : Fn) (c2 : PySem.Str) (F2 : Fn) (c3 : PySem.Str) (F3 : Fn) : R DD := r.bind fun xs τ1 => match xs with
  | [.exc C fs] => hStr3 c1 F1 c2 F2 c3 F3 C fs τ1
  | _ => .no
@[simp] theorem ev_StrX3 {c1 c2 c3 : PySem.Str} {F1 F2 F3 : Fn} : dStrX3 c1 F1 c2 F2 c3 F3 da ρ τ = eStr3 (da ρ τ) c1 F1 c2 F2 c3 F3 := id rfl
@[simp] theorem eStr3_ok {c1 c2 c3 C : PySem.Str} {F1 F2 F3 : Fn} {fs : List (PySem.Str × DD)} : eStr3 (.ok [.exc C fs] τ) c1 F1 c2 F2 c3 F3 = hStr3 c1 F1 c2 F2 c3 F3 C fs τ := id rfl
def hSx (r : R DD) : R DD := r.nox.bind fun d τ2 => match d with
  | .str z => .ok (.str z) τ2
  | _ => .no
@[simp] theorem hStrX_ev {F : Fn} {C : PySem.Str} {fs : List (PySem.Str × DD)} : hStrX F C fs τ = hSx (F [.fr (.exc C fs)] τ) := id rfl
@[simp] theorem hSx_ok {z : PySem.Str} : hSx (.ok (.str z) τ) = .ok (.str z) τ := id rfl
@[simp] theorem gStrA_int {i : Int} : gStrA (.int i) = if i.natAbs.log2 < 1920 then some (.str (toString i)) else none := id rfl
@[simp] theorem gStrA_str {i : PySem.Str} : gStrA (.str i) = some (.str i) := id rfl
@[simp] theorem gStrA_non : gStrA .non = some (.str "None") := id rfl
end
end Np
set_option Elab.async false
set_option linter.all false
set_option maxRecDepth 100000
set_option maxHeartbeats 4000000
namespace Np
open PySem PySem.Spec PyProof.Rows L2
section
variable {ρ : PEnv} {τ τ' : TS'} {a b e o : DE} {r s : DPs} {k n m : Nat} {F : Fn} {g : List PV → List PV → List PV} {as bs : List PV} {cls mm f C : PySem.Str} {fs : List (PySem.Str × DD)} {d x y z : DD} {t : Tau} {nd nd' : Nd} {op : DD → DD → Option DD}
@[simp] theorem putSt_push : putSt (pushSt t nd) t.st.length nd' = pushSt t nd' := by
  unfold putSt pushSt
  dsimp only
  rw [List.set_append_right _ _ (Nat.le_refl _), Nat.sub_self]
  rfl
@[simp] theorem pushSt_get : (pushSt t nd).st[t.st.length]? = some nd := by
  unfold pushSt
  simp
@[simp] theorem objAt_push : objAt (pushSt t (.obj C fs)).st t.st.length = some (C, fs) := by
  unfold objAt
  rw [pushSt_get]
def eSFld (r : R DD) (cls f : PySem.Str) : R DD := r.bind fun x τ1 => match x, τ1 with
  | .ptr k, some t => match objAt t.st k with
    | some (C, fs) => if C = cls then R.of τ1 (fs.lookup f) else .no
    | none => .no
  | _, _ => .no
@[simp] theorem ev_SFld : dSFld cls f a ρ τ = eSFld (a ρ τ) cls f := id rfl
@[simp] theorem eSFld_at (h : objAt t.st k = some (cls, fs)) : eSFld (.ok (.ptr k) (some t)) cls f = R.of (some t) (fs.lookup f) := by
  show (match objAt t.st k with | some (C, fs) => _ | none => _) = _
  rw [h]
  exact if_pos rfl
def eSFSet2 (r : R DD) (cls f : PySem.Str) (ρ : PEnv) (d : DD) : R Ct := stE r ρ fun x τ2 => match x, τ2 with
  | .ptr k, some t => match t.st[k]? with
    | some (.obj C fs) => if C = cls ∧ fs.length < 1000 then .ok (.nx ρ) (some (putSt t k (.obj C (putD f d fs)))) else .no
    | _ => .no
  | _, _ => .no
def eSFSet1 (r : R DD) (cls f : PySem.Str) (o : DE) (ρ : PEnv) : R Ct := stE r ρ fun d τ1 => eSFSet2 (o ρ τ1) cls f ρ d
@[simp] theorem ev_SFSet : dSFSet cls f o e ρ τ = eSFSet1 (e ρ τ) cls f o ρ := id rfl
@[simp] theorem eSFSet1_ok : eSFSet1 (.ok d τ) cls f o ρ = eSFSet2 (o ρ τ) cls f ρ d := id rfl
@[simp] theorem eSFSet1_ex {x : Ex} : eSFSet1 (.ex x τ) cls f o ρ = .ok (.xc x ρ) τ := id rfl
theorem eSFSet2_eq : eSFSet2 (.ok (.ptr k) (some t)) cls f ρ d = match t.st[k]? with
    | some (.obj C fs) => if C = cls ∧ fs.length < 1000 then .ok (.nx ρ) (some (putSt t k (.obj C (putD f d fs)))) else .no
    | _ => .no := id rfl
@[simp] theorem eSFSet2_at (h : t.st[k]? = some (.obj cls fs)) : eSFSet2 (.ok (.ptr k) (some t)) cls f ρ d = if fs.length < 1000 then .ok (.nx ρ) (some (putSt t k (.obj cls (putD f d fs)))) else .no := by
  rw [eSFSet2_eq, h]
  simp only [true_and]
def eSMeN2 (r : R (List PV)) (k : Nat) (F : Fn) (q : Nat) : R DD := r.bind fun as τ2 => if as.length + 1 = k then (F (.fr (.ptr q) :: as) τ2).nox else .no
def eSMeN1 (r : R DD) (k : Nat) (cls m : PySem.Str) (F : Fn) (ps : DPs) (ρ : PEnv) : R DD := r.bind fun x τ1 => match x, τ1 with
  | .ptr q, some t => match objAt t.st q with
    | some (C, fs) => if C = cls ∧ fs.lookup m = none then eSMeN2 (ps ρ τ1) k F q else .no
    | none => .no
  | _, _ => .no
@[simp] theorem ev_SMeN : dSMeN k cls mm F a r ρ τ = eSMeN1 (a ρ τ) k cls mm F r ρ := by
  unfold dSMeN eSMeN1
  congr 1
@[simp] theorem eSMeN1_at {q : Nat} (h : objAt t.st q = some (cls, fs)) : eSMeN1 (.ok (.ptr q) (some t)) k cls mm F r ρ = if fs.lookup mm = none then eSMeN2 (r ρ (some t)) k F q else .no := by
  show (match objAt t.st q with | some (C, fs) => _ | none => _) = _
  rw [h]
  simp only [true_and]
@[simp] theorem eSMeN1_ex {x : Ex} : eSMeN1 (.ex x τ) k cls mm F r ρ = .ex x τ := id rfl
@[simp] theorem eSMeN2_ok {q : Nat} : eSMeN2 (.ok as τ) k F q = if as.length + 1 = k then (F (.fr (.ptr q) :: as) τ).nox else .no := id rfl
def eMkS2 (r : R (List PV)) (k n m : Nat) (cls : PySem.Str) (F : Fn) (g : List PV → List PV → List PV) (as : List PV) : R DD := r.bind fun bs τ2 => if as.length = n ∧ bs.length = m then mkS k cls F (g as bs) τ2 else .no
def eMkS1 (r : R (List PV)) (k n m : Nat) (cls : PySem.Str) (F : Fn) (g : List PV → List PV → List PV) (b : DPs) (ρ : PEnv) : R DD := r.bind fun as τ1 => eMkS2 (b ρ τ1) k n m cls F g as
@[simp] theorem ev_MkS : dMkS k n m cls F g r s ρ τ = eMkS1 (r ρ τ) k n m cls F g s ρ := id rfl
@[simp] theorem eMkS1_ok : eMkS1 (.ok as τ) k n m cls F g s ρ = eMkS2 (s ρ τ) k n m cls F g as := id rfl
@[simp] theorem eMkS2_ok : eMkS2 (.ok bs τ) k n m cls F g as = if as.length = n ∧ bs.length = m then mkS k cls F (g as bs) τ else .no := id rfl
def eMkR (r : R DD) (k : Nat) : R DD := r.bind fun d τ3 => match d with
  | .non => .ok (.ptr k) τ3
  | _ => .no
theorem mkS_ok : mkS k cls F as (some t) = if as.length + 1 = k then eMkR (F (.fr (.ptr t.st.length) :: as) (some (pushSt t (.obj cls [])))) t.st.length else .no := by
  unfold mkS eMkR
  rfl
@[simp] theorem eMkR_ok : eMkR (.ok .non τ) k = .ok (.ptr k) τ := id rfl
@[simp] theorem eMkR_ex {x : Ex} : eMkR (.ex x τ) k = .ex x τ := id rfl
end
end Np
set_option Elab.async false
set_option linter.all false
set_option maxRecDepth 100000
set_option maxHeartbeats 4000000
namespace Np
open PySem PySem.Spec PyProof.Rows L2
def shV (a : Int) (val : Nat → Int) : Nat → Int
  | 0 => a
  | i + 1 => val i
def shP (P : Nat → Value → Prop) : Nat → Value → Prop
  | 0, _ => False
  | i + 1, v => P i v
def shSt (St : Nat → Heap → Prop) : Nat → Heap → Prop
  | 0, _ => False
  | i + 1, h => St i h
theorem shSum (a : Int) (val : Nat → Int) : ∀ n, preSum (shV a val) (n + 1) = a + preSum val n
  | 0 => by show (0 : Int) + a = a + 0; omega
  | n + 1 => by
    show preSum (shV a val) (n + 1) + val n = a + (preSum val n + val n)
    rw [shSum a val n]; omega
section
variable {prog : Program} {w : World} {A : Around} {I : Addr} {fp wr : List Addr} {n : Nat} {P : Nat → Value → Prop} {St : Nat → Heap → Prop}
theorem shWalks (Wk : Walks prog w A I fp wr n P St) : Walks prog w A I fp wr (n + 1) (shP P) (shSt St) := by
  refine ⟨Wk.sub, fun i h h' st k => ?_, fun i s Q E hi st hq => ?_, fun s Q E st hq => Wk.done s Q E st hq, fun i s Q E st hq => ?_⟩
  · cases i with
    | zero => exact st.elim
    | succ i => exact Wk.frame i h h' st k
  · cases i with
    | zero => exact st.elim
    | succ i => exact Wk.item i s Q E (Nat.lt_of_succ_lt_succ hi) st hq
  · cases i with
    | zero => exact st.elim
    | succ i => exact Wk.self i s Q E st hq
end
theorem args_sumS (a v : Value) : argsOk "sum" ⟨[a], [(Str.ofString "start", v)]⟩ := by unfold argsOk; kernel_rfl
section
variable {prog : Program} {w : World} {A : Around} {E : Value → Shared → Prop} {s : Shared}
theorem sum_startW {x : Value} {a : Int} {t : Tok} {Q : Value → Shared → Prop}
    (hx : wpAny (model prog w) A.in1 (pyIter x) (fun it s₂ => ∃ I fp wr n P St val, it = .ref I ∧ Walks prog w A.in1 I fp wr n P St ∧ St 0 s₂.heap ∧ (∀ b ∈ fp, b < s₂.heap.objs.size) ∧
      (∀ i v, P i v → ∃ t, v = .int (val i) t) ∧
      ∀ h' tk t', (∀ b o, b ∉ wr → s₂.heap.get? b = some o → h'.get? b = some o) → Q (.int (a + preSum val n) t') { s₂ with heap := h', toks := tk }) E s) :
    wpAny (model prog w) A (call (.builtin "sum") [x] [(Str.ofString "start", .int a t)]) Q E s := by
  refine kmk_tree PySem.F.kind_sum PySem.F.plain_sum PySem.F.entry_sum (args_sumS _ _) ?_
  unfold Builtin.«sum»
  simp only [List.length_cons, List.length_nil]
  rw [if_neg (by decide)]
  refine wpAny_bind (wpAny_of_eq (show Builtin.Builtins.bindParams "sum" ["start"] 0 ⟨[], [(Str.ofString "start", .int a t)]⟩ = pure [some (.int a t)] from rfl) ?_)
  refine wpAny_bind (wpAny_mono hx (fun it s2 hit => ?_) fun _ _ z => z)
  obtain ⟨I, fp, wr, n, P, St, val, rfl, Wk, hst, hfp, hval, hQ⟩ := hit
  dsimp only
  have hSn : s2.heap.objs.size ∉ fp := fun hm => Nat.lt_irrefl _ (hfp _ hm)
  have hv : ∀ i v, shP P i v → ∃ t, v = .int (shV a val i) t := fun i v hp => by
    cases i with
    | zero => exact hp.elim
    | succ i => exact hval i v hp
  have e1 : preSum (shV a val) 1 = a := by show (0 : Int) + a = a; omega
  split
  · refine wpAny_bind (wpAny_rule (wpAny_bind (wpAny_mkInt (wpAny_bind (wpAny_pure ?_)))))
    dsimp only
    simp only [List.forIn_cons, List.forIn_nil]
    refine wpAny_bind (wpAny_bind (wpAny_bind (wpAny_isInstance (T := "int") (b := false) (typeIs_int _ _ _) PySem.sub_int_str ?_)))
    simp only [Bool.false_eq_true, if_false]
    refine wpAny_pure (wpAny_bind (wpAny_bind (wpAny_isInstance (T := "int") (b := false) (typeIs_int _ _ _) PySem.sub_int_bytes ?_)))
    simp only [Bool.false_eq_true, if_false]
    refine wpAny_pure (wpAny_bind (wpAny_bind (wpAny_isInstance (T := "int") (b := false) (typeIs_int _ _ _) PySem.sub_int_bytearray ?_)))
    simp only [Bool.false_eq_true, if_false]
    refine wpAny_pure (wpAny_pure (wpAny_bind (wpAny_newObj_type ?_)))
    refine wpAny_pure ⟨plainId_quiet PySem.F.plain_sum_loop _, codeAny_sum_loopG (shWalks Wk) (shV a val) hv s2.heap.objs.size hSn n 1 _ s2.toks 0 0 (.inl rfl) (by omega) (by omega)
      (Wk.frame _ _ _ hst fun b _ o e => Heap.get?_push_of_some _ e) ?_ fun h' tk t' hk => ?_⟩
    · rw [e1]
      exact Heap.get?_push_size _ rfl
    · rw [shSum]
      exact hQ h' tk t' fun b o hb e => hk b o hb (Nat.ne_of_lt (Heap.lt_size e)) (Heap.get?_push_of_some _ e)
  · refine wpAny_bind (wpAny_pure ?_)
    dsimp only
    simp only [List.forIn_cons, List.forIn_nil]
    refine wpAny_bind (wpAny_bind (wpAny_bind (wpAny_isInstance (T := "int") (b := false) (typeIs_int _ _ _) PySem.sub_int_str ?_)))
    simp only [Bool.false_eq_true, if_false]
    refine wpAny_pure (wpAny_bind (wpAny_bind (wpAny_isInstance (T := "int") (b := false) (typeIs_int _ _ _) PySem.sub_int_bytes ?_)))
    simp only [Bool.false_eq_true, if_false]
    refine wpAny_pure (wpAny_bind (wpAny_bind (wpAny_isInstance (T := "int") (b := false) (typeIs_int _ _ _) PySem.sub_int_bytearray ?_)))
    simp only [Bool.false_eq_true, if_false]
    refine wpAny_pure (wpAny_pure (wpAny_bind (wpAny_newObj_type ?_)))
    refine wpAny_pure ⟨plainId_quiet PySem.F.plain_sum_loop _, codeAny_sum_loopG (shWalks Wk) (shV a val) hv s2.heap.objs.size hSn n 1 _ t 0 2 (.inr rfl) (by omega) (by omega)
      (Wk.frame _ _ _ hst fun b _ o e => Heap.get?_push_of_some _ e) ?_ fun h' tk t' hk => ?_⟩
    · rw [e1]
      exact Heap.get?_push_size _ rfl
    · rw [shSum]
      exact hQ h' tk t' fun b o hb e => hk b o hb (Nat.ne_of_lt (Heap.lt_size e)) (Heap.get?_push_of_some _ e)
end
section
variable {prog : Program} {w : World} {A : Around} {E : Value → Shared → Prop} {s : Shared} {l : Addr} {its : List Value} {ns : List Int} {a : Int} {t : Tok} {Q : Value → Shared → Prop}
theorem sum_startI (hh : A.handled = none) (hl : s.heap.IsList l its.toArray) (hi : IntsAre its ns)
    (hq : ∀ h' tk t', (∀ b o, s.heap.get? b = some o → h'.get? b = some o) → Q (.int (a + ns.sum) t') { s with heap := h', toks := tk }) : wpAny (model prog w) A (call (.builtin "sum") [.ref l] [(Str.ofString "start", .int a t)]) Q E s := by
  obtain ⟨xs, e⟩ := hi.allInts.items
  have hn : ((intItems xs).toList |> numsOf) = ns := e ▸ hi.numsOf
  rw [nums_intItems] at hn
  rw [e] at hl
  refine sum_startW (iter_intList hl fun s2 e2 st hfp hlI => ?_)
  subst e2
  refine ⟨_, _, _, _, _, _, numAt xs, rfl, Walks.list (A := A.in1) hh _ l hlI (intItems xs), st, hfp, (fun _ _ => intItems_at), fun h' tk t' hk => ?_⟩
  have q := hq h' tk t' (old_kept hk)
  have es : preSum (numAt xs) (intItems xs).size = ns.sum := by
    rw [preSum_eq, List.take_of_length_le (by simp [intItems]), hn]
  rw [es]
  exact q
end
def rSumS (K : PySem.W.Frag) : List V → List V → Hp → VK → Prop := fun vs zs H Q => ∃ (l : Addr) (ns : List Int) (a : Int), vs = [.ref l] ∧ zs = [.int a] ∧ SqL K H l (ns.map V.int) ∧ Q (.int (a + ns.sum)) H
theorem cr_sumS {X : Cx} (hc : X.calm = true) (K : PySem.W.Frag) (hK : X.K = K := by rfl) : CallRK X (.builtin "sum") [Str.ofString "start"] (rSumS K) := by
  subst hK
  intro pins s σ H vs zs us ws Q I r rz h
  obtain ⟨l, ns, a, rfl, rfl, hl, q⟩ := h
  obtain rfl := Vals.ref1 r
  cases rz with | cons rz rr =>
  cases rr
  obtain ⟨t0, rfl⟩ := rz
  obtain ⟨its, rv, pl, _⟩ := I.list hl
  show wpAny _ _ (call (.builtin "sum") [.ref l] [(Str.ofString "start", .int a _)]) _ _ _
  exact sum_startI (I.ok.hd hc) pl.isList rv.ints fun h' tk t' hk => ⟨.int _, H, I.kept hk, ⟨t', rfl⟩, q⟩
def gSumS : List DD → List DD → Option DD
  | [.lst ds], [.int a] => (ints? ds).map fun ns => .int (a + ns.sum)
  | _, _ => none
def dSumS (a b : DA) : DE := fun ρ τ => (a ρ τ).bind fun xs τ1 => (b ρ τ1).bind fun ys τ2 => R.of τ2 (gSumS xs ys)
section
variable {W : Wp} {Wx : L2.St → XK} {ta tb : TA} {δa δb : DA}
theorem dn_sumS (ha : DnA W Wx ta δa) (hb : DnA W Wx tb δb) : Dn W Wx (tCKw (rSumS W.K) ta tb) (dSumS δa δb) := fun tp G H σ ρ τ Q E P =>
  ha _ _ _ _ _ _ _ E (P.bind fun as τ1 vs G1 H1 e1 E1 r1 P1 => hb _ _ _ _ _ _ _ E1 (P1.bind fun bs τ2 us G2 H2 e2 E2 r2 P2 => by
    obtain ⟨d, hd, P3⟩ := P2.of
    unfold gSumS at hd
    split at hd
    · rename_i ds a
      obtain ⟨ns, h1, h2⟩ := Option.map_eq_some_iff.mp hd
      cases h2
      cases ints?_eq h1
      cases r1 with | cons r rr =>
      cases rr
      have r := Rp.mono e2.g r
      cases r with | lst hl ra =>
      cases r2 with | cons r' rr =>
      cases rr
      have z := r'.int_of
      subst z
      exact ⟨_, ns, a, rfl, rfl, by rw [← ra.ints_of]; exact SqL.of (E2.g _ _ hl), P3 _ G2 H2 Ext.refl E2 (.int _)⟩
    · cases hd))
end
def leS (a b : Str) : Bool := decide (a.cps.toList ≤ b.cps.toList)
def srtS (xs : List Str) : List Str := xs.mergeSort leS
theorem leS_tr (a b c : Str) (h1 : leS a b = true) (h2 : leS b c = true) : leS a c = true := by
  unfold leS at *
  simp only [decide_eq_true_eq] at *
  exact List.le_trans h1 h2
theorem leS_tot (a b : Str) : (leS a b || leS b a) = true := by
  unfold leS
  simp only [Bool.or_eq_true, decide_eq_true_eq]
  exact List.le_total _ _
theorem leS_anti {a b : Str} (h1 : leS a b = true) (h2 : leS b a = true) : a = b := by
  unfold leS at *
  simp only [decide_eq_true_eq] at *
  have e := List.le_antisymm h1 h2
  cases a with | mk a =>
  cases b with | mk b =>
  have e : a.toList = b.toList := e
  exact congrArg Str.mk (Array.toList_inj.mp e)
theorem srtS_perm (xs : List Str) : (srtS xs).Perm xs := List.mergeSort_perm _ _
theorem srtS_pw (xs : List Str) : (srtS xs).Pairwise fun a b => leS a b = true := List.pairwise_mergeSort leS_tr leS_tot xs
theorem srtS_eq {xs ys : List Str} (hp : ys.Perm xs) (hs : ys.Pairwise fun a b => leS a b = true) : ys = srtS xs :=
  List.Perm.eq_of_pairwise (fun _ _ _ _ h1 h2 => leS_anti h1 h2) hs (srtS_pw xs) (hp.trans (srtS_perm xs).symm)
theorem le_of_rise {p x : Str} (h : ltCps x.cps.toList p.cps.toList = false) : leS p x = true := by
  rw [ltCps_eq] at h
  have h := of_decide_eq_false h
  unfold leS
  simp only [decide_eq_true_eq]
  exact List.not_lt.mp h
theorem rises_pw : ∀ (p : Str) (l : List Str), risingS p l = true → (p :: l).Pairwise fun a b => leS a b = true
  | p, [], _ => List.pairwise_singleton _ _
  | p, x :: r, h => by
    unfold risingS at h
    rw [Bool.and_eq_true, Bool.not_eq_true'] at h
    have q := rises_pw x r h.2
    refine List.pairwise_cons.mpr ⟨fun y hy => ?_, q⟩
    rcases List.mem_cons.mp hy with rfl | hy
    · exact le_of_rise h.1
    · exact leS_tr _ _ _ (le_of_rise h.1) ((List.pairwise_cons.mp q).1 y hy)
theorem sorted_pw : ∀ {l : List Str}, sortedS l = true → l.Pairwise fun a b => leS a b = true
  | [], _ => List.Pairwise.nil
  | x :: r, h => rises_pw x r h
theorem RpA.strsD {K : PySem.W.Frag} {cm : CM} {H : GH} : ∀ ns : List Str, RpA K cm H (ns.map V.str) (ns.map DD.str)
  | [] => .nil
  | n :: ns => .cons (.str n) (RpA.strsD ns)
end Np
set_option Elab.async false
set_option linter.all false
set_option maxRecDepth 100000
set_option maxHeartbeats 4000000
namespace Np
open PySem PySem.Spec PyProof.Rows L2
end Np
set_option Elab.async false
set_option linter.all false
set_option maxRecDepth 100000
set_option maxHeartbeats 4000000
namespace Np
open PySem PySem.Spec PyProof.Rows L2 LamX
end Np
set_option Elab.async false
set_option linter.all false
set_option maxRecDepth 100000
set_option maxHeartbeats 4000000
namespace Np
open PySem PySem.Spec PyProof.Rows L2
section
variable {W : Wp} {Wx : L2.St → XK} {tp : Option Addr} {G G' : GH} {H H' : Hp} {σ : L2.St} {ρ : PEnv} {τ : TS'}
theorem RpA.mapD {f : DD → DD} : ∀ {vs : List V} {ds : List DD}, (∀ v d, Rp W.K W.cm G v d → Rp W.K W.cm G' v (f d)) → RpA W.K W.cm G vs ds → RpA W.K W.cm G' vs (ds.map f)
  | _, _, _, .nil => .nil
  | _, _, h, .cons a r => .cons (h _ _ a) (RpA.mapD h r)
variable {te tx : TE} {δe δx : DE} {tc : TT} {δc : DT} {tr : TA} {δr : DPs}
def dFldA (cls f : Str) (a : DE) : DE := fun ρ τ => (a ρ τ).bind fun x τ1 => match x with
  | .obj C fs => if C = cls then R.of τ1 (fs.lookup f) else .no
  | .ptr k => match τ1 with
    | some t => (match objAt t.st k with
      | some (C, fs) => if C = cls then R.of τ1 (fs.lookup f) else .no
      | none => .no)
    | none => .no
  | _ => .no
def dMeNA (k : Nat) (cls m : Str) (F : Fn) (a : DE) (r : DPs) : DE := fun ρ τ => (a ρ τ).bind fun x τ1 => match x with
  | .obj C fs => if C = cls ∧ fs.lookup m = none then (r ρ τ1).bind fun as τ2 => if as.length + 1 = k then (F (.fr (.obj C fs) :: as) τ2).nox else .no
    else .no
  | .ptr q => match τ1 with
    | some t => (match objAt t.st q with
      | some (C, fs) => if C = cls ∧ fs.lookup m = none then (r ρ τ1).bind fun as τ2 => if as.length + 1 = k then (F (.fr (.ptr q) :: as) τ2).nox else .no
        else .no
      | none => .no)
    | none => .no
  | _ => .no
end
section
variable {ρ : PEnv} {τ τ1 τ2 : TS'} {t : Tau} {e a : DE} {c : DT} {r : DPs} {i k q : Nat} {xs : List DD} {d y : DD} {b : Bool} {C cls f mm : Str} {fs : List (Str × DD)} {F : Fn} {as : List PV}
def eFldA (r : R DD) (cls f : Str) : R DD := r.bind fun x τ1 => match x with
  | .obj C fs => if C = cls then R.of τ1 (fs.lookup f) else .no
  | .ptr k => match τ1 with
    | some t => (match objAt t.st k with
      | some (C, fs) => if C = cls then R.of τ1 (fs.lookup f) else .no
      | none => .no)
    | none => .no
  | _ => .no
@[simp] theorem ev_FldA : dFldA cls f a ρ τ = eFldA (a ρ τ) cls f := id rfl
@[simp] theorem eFldA_obj : eFldA (.ok (.obj cls fs) τ) cls f = R.of τ (fs.lookup f) := if_pos rfl
@[simp] theorem eFldA_at (h : objAt t.st k = some (cls, fs)) : eFldA (.ok (.ptr k) (some t)) cls f = R.of (some t) (fs.lookup f) := by
  show (match objAt t.st k with | some (C, fs) => _ | none => _) = _
  rw [h]
  exact if_pos rfl
def eMeNA2 (r : R (List PV)) (k : Nat) (F : Fn) (x : DD) : R DD := r.bind fun as τ2 => if as.length + 1 = k then (F (.fr x :: as) τ2).nox else .no
def eMeNA (r : R DD) (k : Nat) (cls m : Str) (F : Fn) (ps : DPs) (ρ : PEnv) : R DD := r.bind fun x τ1 => match x with
  | .obj C fs => if C = cls ∧ fs.lookup m = none then eMeNA2 (ps ρ τ1) k F (.obj C fs) else .no
  | .ptr q => match τ1 with
    | some t => (match objAt t.st q with
      | some (C, fs) => if C = cls ∧ fs.lookup m = none then eMeNA2 (ps ρ τ1) k F (.ptr q) else .no
      | none => .no)
    | none => .no
  | _ => .no
@[simp] theorem ev_MeNA : dMeNA k cls mm F a r ρ τ = eMeNA (a ρ τ) k cls mm F r ρ := id rfl
@[simp] theorem eMeNA_obj : eMeNA (.ok (.obj cls fs) τ) k cls mm F r ρ = if fs.lookup mm = none then eMeNA2 (r ρ τ) k F (.obj cls fs) else .no := by
  show (if cls = cls ∧ fs.lookup mm = none then _ else _) = _
  simp only [true_and]
@[simp] theorem eMeNA_at (h : objAt t.st q = some (cls, fs)) : eMeNA (.ok (.ptr q) (some t)) k cls mm F r ρ = if fs.lookup mm = none then eMeNA2 (r ρ (some t)) k F (.ptr q) else .no := by
  show (match objAt t.st q with | some (C, fs) => _ | none => _) = _
  rw [h]
  simp only [true_and]
@[simp] theorem eMeNA2_ok {x : DD} : eMeNA2 (.ok as τ) k F x = if as.length + 1 = k then (F (.fr x :: as) τ).nox else .no := id rfl
end
end Np
set_option Elab.async false
set_option linter.all false
set_option maxRecDepth 100000
namespace Np
open PySem PySem.Spec PyProof.Rows L2
section
variable {ρ : PEnv} {τ τ' : TS'} {F : Fn} {a : DA}
noncomputable def eMinK (F : Fn) (r : R (List DD)) : R DD := r.bind fun xs τ1 => match xs with
  | [.lst ds] => R.of τ1 (gMinK F ds)
  | _ => .no
@[simp] theorem ev_MinK : dMinK F a ρ τ = eMinK F (a ρ τ) := id rfl
@[simp] theorem eMinK_ok {ds : List DD} : eMinK F (.ok [.lst ds] τ) = R.of τ (gMinK F ds) := id rfl
def zpA? : List DD → Option (List DD)
  | [.lst ds, .lst es] => some (zipD ds es)
  | [.tup ds, .tup es] => some (zipD ds es)
  | _ => none
@[simp] theorem zpA?_l {ds es : List DD} : zpA? [.lst ds, .lst es] = some (zipD ds es) := id rfl
@[simp] theorem zpA?_t {ds es : List DD} : zpA? [.tup ds, .tup es] = some (zipD ds es) := id rfl
@[simp] theorem ev_IZipA : dIZipA a ρ τ = eUn (a ρ τ) zpA? := by
  unfold dIZipA eUn
  congr 1
  funext x τ1
  unfold zpA?
  rcases x with _ | ⟨d, _ | ⟨e, _ | ⟨f, x⟩⟩⟩
  · rfl
  · cases d <;> rfl
  · cases d <;> cases e <;> first | rfl | (dsimp only [R.of]; split <;> rfl)
  · cases d <;> cases e <;> rfl
end
end Np
set_option Elab.async false
set_option linter.all false
set_option maxRecDepth 100000
namespace Np
open PySem PySem.Spec PyProof.Rows L2
section
variable {ρ : PEnv} {τ τ' : TS'} {a : DA} {δ δh : DS} {exm : PySem.Str → Option Bool} {i : Nat} {x : Ex} {d : DD}
def eTh (o : Option Bool) (x : Ex) (ρ1 : PEnv) (τ1 : TS') (i : Nat) (δh : DS) : R Ct := match o with
  | some true => clrI i (δh (ρ1.set i (some (.fr (.exc x.cls x.fs)))) τ1)
  | some false => .ok (.xc x ρ1) τ1
  | none => .no
def eTryH (r : R Ct) (exm : PySem.Str → Option Bool) (i : Nat) (δh : DS) : R Ct := match r with
  | .ok (.xc x ρ1) τ1 => eTh (exm x.cls) x ρ1 τ1 i δh
  | r => r
@[simp] theorem ev_TryH : dTryH exm i δ δh ρ τ = eTryH (δ ρ τ) exm i δh := id rfl
@[simp] theorem eTryH_nx : eTryH (.ok (.nx ρ) τ) exm i δh = .ok (.nx ρ) τ := id rfl
@[simp] theorem eTryH_rt : eTryH (.ok (.rt d) τ) exm i δh = .ok (.rt d) τ := id rfl
@[simp] theorem eTryH_bk : eTryH (.ok (.bk ρ) τ) exm i δh = .ok (.bk ρ) τ := id rfl
@[simp] theorem eTryH_ct : eTryH (.ok (.ct ρ) τ) exm i δh = .ok (.ct ρ) τ := id rfl
@[simp] theorem eTryH_xc : eTryH (.ok (.xc x ρ) τ) exm i δh = eTh (exm x.cls) x ρ τ i δh := id rfl
@[simp] theorem eTh_t : eTh (some true) x ρ τ i δh = clrI i (δh (ρ.set i (some (.fr (.exc x.cls x.fs)))) τ) := id rfl
@[simp] theorem clrI_nx : clrI i (.ok (.nx ρ) τ) = .ok (.nx (ρ.set i none)) τ := id rfl
@[simp] theorem clrI_bk : clrI i (.ok (.bk ρ) τ) = .ok (.bk (ρ.set i none)) τ := id rfl
@[simp] theorem clrI_ct : clrI i (.ok (.ct ρ) τ) = .ok (.ct (ρ.set i none)) τ := id rfl
@[simp] theorem clrI_rt : clrI i (.ok (.rt d) τ) = .ok (.rt d) τ := id rfl
def enT? : List DD → Option (List DD)
  | [.tup ds] => some (enumD ds)
  | _ => none
@[simp] theorem enT?_eq {ds : List DD} : enT? [.tup ds] = some (enumD ds) := id rfl
@[simp] theorem ev_IEnumT : dIEnumT a ρ τ = eUn (a ρ τ) enT? := by
  unfold dIEnumT eUn
  congr 1
  funext x τ1
  unfold enT?
  rcases x with _ | ⟨d, _ | ⟨e, x⟩⟩
  · rfl
  · cases d <;> first | rfl | (dsimp only [R.of]; split <;> rfl)
  · cases d <;> rfl
def eMinD (r : R (List DD)) : R DD := r.bind fun xs τ1 => match xs with
  | [.lst ds] => R.of τ1 (gMinD ds)
  | _ => .no
@[simp] theorem ev_MinD : dMinD a ρ τ = eMinD (a ρ τ) := id rfl
@[simp] theorem eMinD_ok {ds : List DD} : eMinD (.ok [.lst ds] τ) = R.of τ (gMinD ds) := id rfl
@[simp] theorem eCons1_x {r : DA} : eCons1 (.ex x τ) r ρ = .ex x τ := id rfl
@[simp] theorem eCons2_x : eCons2 (.ex x τ) d = .ex x τ := id rfl
@[simp] theorem eSeqD_x {f : List DD → DD} : eSeqD (.ex x τ) f = .ex x τ := id rfl
@[simp] theorem eRet_x : eRet (.ex x τ) ρ = .ok (.xc x ρ) τ := id rfl
def en (k : Nat) : List DD → List DD
  | [] => []
  | d :: ds => .tup [.int (k : Int), d] :: en (k + 1) ds
end
end Np
set_option Elab.async false
set_option linter.all false
set_option maxRecDepth 100000
namespace Np
open PySem PySem.Spec PyProof.Rows L2
end Np
set_option Elab.async false
set_option linter.all false
set_option maxRecDepth 100000
set_option maxHeartbeats 4000000
namespace Np
open PySem PySem.Spec PyProof.Rows L2
section
variable {ρ : PEnv} {τ τ1 τ2 τ3 : TS'} {a b : DA} {o e y : DE} {r s : DPs} {i j k n m : Nat} {F : Fn} {as bs : List PV} {cls f : PySem.Str} {fs fs1 : List (PySem.Str × DD)} {d v z : DD} {t t1 : Tau} {ns : List Int} {g : DD → DD → Option DD}
theorem sumS_ok (ha : a ρ τ = .ok [.lst (ns.map DD.int)] τ1) (hb : b ρ τ1 = .ok [.int j'] τ2) : dSumS a b ρ τ = .ok (.int (j' + ns.sum)) τ2 := by
  unfold dSumS
  rw [ha, R.bind_ok, hb, R.bind_ok]
  unfold gSumS
  simp
theorem mkSN_ok {g : List PV → List PV → List PV} (h1 : r ρ τ = .ok as τ1) (h2 : s ρ τ1 = .ok bs τ2) (hn : as.length = n) (hm : bs.length = m) (h : mkS k cls F (g as bs) τ2 = .ok d τ3) : dMkSN k n m cls F g r s ρ τ = .ok d τ3 := by
  unfold dMkSN
  rw [h1, R.bind_ok, h2, R.bind_ok, if_pos ⟨hn, hm⟩, h]
  rfl
theorem sfaug_ok (ho : o ρ τ = .ok (.ptr k) (some t1)) (h1 : objAt t1.st k = some (cls, fs1)) (hv : fs1.lookup f = some v) (he : e ρ (some t1) = .ok z (some t)) (hg : g v z = some d) (hk : t.st[k]? = some (.obj cls fs)) (hl : fs.length < 1000) :
    dSFAug cls f g o e ρ τ = .ok (.nx ρ) (some (putSt t k (.obj cls (putD f d fs)))) := by
  unfold dSFAug
  rw [ho, stE_ok]
  dsimp only
  rw [h1]
  dsimp only
  rw [if_pos rfl, hv]
  dsimp only
  rw [he, stE_ok]
  dsimp only
  rw [hg, hk]
  dsimp only
  rw [if_pos ⟨rfl, hl⟩]
end
end Np
set_option Elab.async false
set_option linter.all false
set_option maxRecDepth 100000
set_option maxHeartbeats 4000000
namespace Np
open PySem PySem.Spec PyProof.Rows L2
def gRepT : DD → DD → Option DD
  | .tup a, .int k => if a ≠ [] ∧ -(2 ^ 63) ≤ k ∧ k ≤ 1 then some (.tup (if k = 1 then a else [])) else none
  | _, _ => none
section
variable {W : Wp} {Wx : L2.St → XK} {ta te : TE} {δa δ : DE}
@[simp] theorem gRepT_eq {a : List DD} {k : Int} : gRepT (.tup a) (.int k) = if a ≠ [] ∧ -(2 ^ 63) ≤ k ∧ k ≤ 1 then some (.tup (if k = 1 then a else [])) else none := id rfl
end
def gRevT : DD → Option DD
  | .tup ds => some (.tup ds.reverse)
  | _ => none
@[simp] theorem gRevT_eq {ds : List DD} : gRevT (.tup ds) = some (.tup ds.reverse) := id rfl
def dIsXN (kit : Str → Option Bool) (a : DE) : DE := fun ρ τ => (a ρ τ).bind fun x τ1 => match x with
  | .exc C _ => R.of τ1 ((kit C).map .bl)
  | .non => .ok (.bl false) τ1
  | _ => .no
section
variable {W : Wp} {Wx : L2.St → XK} {ta te : TE} {δa δ : DE}
def eIsXN (kit : Str → Option Bool) (x : R DD) : R DD := x.bind fun x τ1 => match x with
  | .exc C _ => R.of τ1 ((kit C).map .bl)
  | .non => .ok (.bl false) τ1
  | _ => .no
variable {ρ : PEnv} {τ : TS'} {kit : Str → Option Bool}
@[simp] theorem ev_IsXN : dIsXN kit δ ρ τ = eIsXN kit (δ ρ τ) := id rfl
@[simp] theorem eIsXN_exc {C : Str} {fs : List (Str × DD)} : eIsXN kit (.ok (.exc C fs) τ) = R.of τ ((kit C).map .bl) := id rfl
@[simp] theorem eIsXN_non : eIsXN kit (.ok .non τ) = .ok (.bl false) τ := id rfl
@[simp] theorem eIsXN_ex {x : Ex} : eIsXN kit (.ex x τ) = .ex x τ := id rfl
end
end Np
set_option Elab.async false
set_option linter.all false
set_option maxRecDepth 100000
set_option maxHeartbeats 4000000
namespace Np
open PySem PySem.Spec PyProof.Rows L2
end Np
set_option Elab.async false
set_option linter.all false
set_option maxRecDepth 100000
set_option maxHeartbeats 4000000
namespace Np
open PySem PySem.Spec PyProof.Rows L2
def derefA (st : List Nd) : DD → DD
  | .ptr k => match st[k]? with
    | some (.fz d) => d
    | some nd => (ddOf nd).getD (.ptr k)
    | none => .ptr k
  | d => d
end Np
set_option Elab.async false
set_option linter.all false
set_option maxRecDepth 100000
set_option maxHeartbeats 4000000
namespace Np
open PySem PySem.Spec PyProof.Rows L2
end Np
set_option Elab.async false
set_option linter.all false
set_option maxRecDepth 100000
set_option maxHeartbeats 4000000
namespace Np
open PySem PySem.Spec PyProof.Rows L2
section
variable {W : Wp} {Wx : L2.St → XK} {tp0 tp : Option Addr} {G0 G : GH} {H0 H : Hp} {σ : L2.St} {ρ : PEnv} {τ : TS'} {t : TS} {δt : DS} {tr : TA} {δr : DPs}
def derefT (st : List Nd) : DD → DD
  | .tup xs => .tup (xs.map (derefA st))
  | d => derefA st d
theorem look {t : Tau} (E : EnvV W tp G H σ ρ (some t)) : ∃ G1, GS G G1 ∧ EnvV W none G1 H σ (ρ.map hid) none ∧ ∀ v d, Rp W.K W.cm G v d → Rp W.K W.cm G1 v (derefT t.st d) := by
  cases tp with
  | none => exact E.t.elim
  | some a =>
    have t0 : TapeR W G H a t := E.t
    let F : List Addr := G.ads.filter fun q => decide (G.hp q = none)
    have hF : ∀ q ∈ F, G q = none ∧ q ∈ G.ads := fun q hq => by
      have := List.mem_filter.mp hq
      exact ⟨of_decide_eq_true this.2, this.1⟩
    have E2 := E.hide.freezeF (F := F) (fun q hq => ⟨(hF q hq).1, NoM.none⟩) (fun q hq => t0.s.nt q (hF q hq).2) (fun q hq j c b F1 h1 h2 w hp => by
      obtain ⟨F2, w2, gn⟩ := E.own (hid_ow h1) h2
      cases w2.uniq w
      exact ((gn q hp).2 a rfl).2 (hF q hq).2)
    have s2 : GS G (upF G H F) := upF_same fun q hq => (hF q hq).1
    have ins : ∀ p o, p ∈ G.ads → H p = some o → (upF G H F).hp p = some o := fun p o hp ho => by
      by_cases z : p ∈ F
      · rw [upF_in p z]; exact ho
      · rw [upF_out z]
        cases hg : G.hp p with
        | none => exact absurd (List.mem_filter.mpr ⟨hp, decide_eq_true hg⟩) z
        | some o' => rw [E.g.s _ _ hg] at ho; exact ho
    have one : ∀ v d, Rp W.K W.cm G v d → Rp W.K W.cm (upF G H F) v (derefA t.st d) := fun v d r => by
      cases d <;> first | exact r.mono s2 | skip
      rename_i k
      unfold derefA
      dsimp only
      split
      · rename_i d' ho
        obtain ⟨_, p, _, rfl, hm, hk, _, hn⟩ := E.sto r ho
        exact hn.mono s2
      · rename_i nd nf ho
        obtain ⟨_, p, _, rfl, hm, hk, hn⟩ := E.sto r ho
        cases nd with
        | lst xs => obtain ⟨vs, hv, rr⟩ := hn; exact .lst (ins p _ hm hv) (rr.mono s2)
        | dK xs => obtain ⟨vs, hv, rr⟩ := hn; exact .dic (ins p _ hm hv) (rr.mono s2)
        | obj C fs => obtain ⟨dx, vs, hv, rr⟩ := hn; exact .obj (ins p _ hm hv) (rr.mono s2)
        | gone => exact r.mono s2
        | dT xs => exact r.mono s2
        | fz d => exact absurd rfl (nf d)
      · exact r.mono s2
    refine ⟨_, s2, E2, fun v d r => ?_⟩
    cases d <;> first | exact one v _ r | skip
    cases r with | tup h ra => exact .tup (s2.s _ _ h) (RpA.mapD one ra)
end
end Np
set_option Elab.async false
set_option linter.all false
set_option maxRecDepth 100000
set_option maxHeartbeats 4000000
namespace Np
open PySem PySem.Spec PyProof.Rows L2
end Np
set_option Elab.async false
set_option linter.all false
set_option maxRecDepth 100000
set_option maxHeartbeats 4000000
namespace Np
open PySem PySem.Spec PyProof.Rows L2
end Np
set_option Elab.async false
set_option linter.all false
set_option maxRecDepth 100000
set_option maxHeartbeats 4000000
namespace Np
open PySem PySem.Spec PyProof.Rows L2
def keysDt : List DD → Option (List Key)
  | [] => some []
  | d :: r => match keyD d, keysDt r with
    | some k, some ks => some (k :: ks)
    | _, _ => none
def valT {α : Type} (kvs : List (List Key × α)) (k : List Key) : Option α := (kvs.find? fun kv => decide (kv.1 = k)).map (·.2)
def putT {α : Type} (kvs : List (List Key × α)) (k : List Key) (v : α) : List (List Key × α) :=
  if (kvs.any fun kv => decide (kv.1 = k)) = true then kvs.map (fun kv => if kv.1 = k then (kv.1, v) else kv) else kvs ++ [(k, v)]
section
variable {K : PySem.W.Frag} {cm : CM} {H : GH}
theorem RpA.keysD : ∀ {vs : List V} {ds : List DD} {ks : List Key}, RpA K cm H vs ds → keysDt ds = some ks → vs = ks.map kV
  | _, _, _, .nil, h => by cases h; rfl
  | _, _, _, .cons r rs, h => by
    unfold keysDt at h
    split at h
    · rename_i k ks h1 h2
      cases h
      rw [List.map_cons, ← r.key h1, RpA.keysD rs h2]
    · cases h
theorem RpT.val : ∀ {xs : List (List Key × V)} {ds : List (List Key × DD)} (k : List Key), RpT K cm H xs ds → (∃ v d, valV xs k = some v ∧ valT ds k = some d ∧ Rp K cm H v d) ∨ (valV xs k = none ∧ valT ds k = none)
  | _, _, k, .nil => .inr ⟨rfl, rfl⟩
  | (k', v) :: xs, (k2, d) :: ds, k, .cons h r => by
    obtain ⟨e0, h⟩ := h
    have e0 : k' = k2 := e0
    subst e0
    by_cases e : k' = k
    · refine .inl ⟨v, d, ?_, ?_, h⟩
      · unfold valV; rw [List.find?_cons_of_pos (by simpa using e)]; rfl
      · unfold valT; rw [List.find?_cons_of_pos (by simpa using e)]; rfl
    · have e1 : valV ((k', v) :: xs) k = valV xs k := by unfold valV; rw [List.find?_cons_of_neg (by simpa using e)]
      have e2 : valT ((k', d) :: ds) k = valT ds k := by unfold valT; rw [List.find?_cons_of_neg (by simpa using e)]
      rw [e1, e2]
      exact RpT.val k r
theorem RpT.any (k : List Key) : ∀ {xs : List (List Key × V)} {ds : List (List Key × DD)}, RpT K cm H xs ds → (xs.any fun kv => decide (kv.1 = k)) = (ds.any fun kv => decide (kv.1 = k))
  | _, _, .nil => rfl
  | _, _, .cons h r => by rw [List.any_cons, List.any_cons, RpT.any k r, h.1]
theorem RpT.app : ∀ {xs xs' : List (List Key × V)} {ds ds' : List (List Key × DD)}, RpT K cm H xs ds → RpT K cm H xs' ds' → RpT K cm H (xs ++ xs') (ds ++ ds')
  | _, _, _, _, .nil, s => s
  | _, _, _, _, .cons h r, s => .cons h (RpT.app r s)
theorem RpT.over {k : List Key} {v : V} {d : DD} (h : Rp K cm H v d) : ∀ {xs : List (List Key × V)} {ds : List (List Key × DD)}, RpT K cm H xs ds → RpT K cm H (xs.map fun kv => if kv.1 = k then (kv.1, v) else kv) (ds.map fun kv => if kv.1 = k then (kv.1, d) else kv)
  | _, _, .nil => .nil
  | (k', _) :: _, (k2, _) :: _, .cons h' r => by
    obtain ⟨e0, h'⟩ := h'
    have e0 : k' = k2 := e0
    subst e0
    rw [List.map_cons, List.map_cons]
    by_cases e : k' = k
    · rw [if_pos e, if_pos e]; exact .cons ⟨rfl, h⟩ (RpT.over h r)
    · rw [if_neg e, if_neg e]; exact .cons ⟨rfl, h'⟩ (RpT.over h r)
theorem RpT.put {xs : List (List Key × V)} {ds : List (List Key × DD)} {k : List Key} {v : V} {d : DD} (r : RpT K cm H xs ds) (h : Rp K cm H v d) : RpT K cm H (putK xs k v) (putT ds k d) := by
  unfold putK putT
  rw [RpT.any k r]
  split
  · exact RpT.over h r
  · exact RpT.app r (.cons ⟨rfl, h⟩ .nil)
theorem RpT.len {xs : List (List Key × V)} {ds : List (List Key × DD)} (h : RpT K cm H xs ds) : xs.length = ds.length := Paired.length h
end
/-- what stands there at a key; none: the key is none that this dict takes -/
def getN : Nd → DD → Option (Option DD)
  | .dK kvs, k => (keyD k).map (valD kvs)
  | .dT kvs, .tup ds => (keysDt ds).map (valT kvs)
  | _, _ => none
def putN : Nd → DD → DD → Option Nd
  | .dK kvs, k, d => if kvs.length < sizeLine then (keyD k).map fun k => .dK (putKD kvs k d) else none
  | .dT kvs, .tup ds, d => if kvs.length < sizeLine then (keysDt ds).map fun k => .dT (putT kvs k d) else none
  | _, _, _ => none
section
variable {W : Wp} {G : GH} {H : Hp} {p : Addr}
theorem getN_run {nd : Nd} {k : DD} {y : V} {o : Option DD} (g : SB W G H) (n : NdR W G H p nd) (r : Rp W.K W.cm G y k) (h : getN nd k = some o) : ∃ ov, DGet H p y ov ∧ ((∃ v d, ov = some v ∧ o = some d ∧ Rp W.K W.cm G v d) ∨ (ov = none ∧ o = none)) := by
  cases nd with
  | dK kvs =>
    obtain ⟨vs, hv, rr⟩ := n
    obtain ⟨k', h1, rfl⟩ := Option.map_eq_some_iff.mp h
    refine ⟨valV vs k', by rw [r.key h1]; exact DGet.k hv, ?_⟩
    rcases rr.val k' with ⟨v, d, q1, q2, q3⟩ | ⟨q1, q2⟩
    · exact .inl ⟨v, d, q1, q2, q3⟩
    · exact .inr ⟨q1, q2⟩
  | dT kvs =>
    obtain ⟨vs, hv, rr⟩ := n
    cases k with
    | tup ds =>
      obtain ⟨ks, h1, rfl⟩ := Option.map_eq_some_iff.mp h
      cases r with | tup hb ra =>
      rename_i b ws
      have e := RpA.keysD ra h1
      subst e
      refine ⟨valV vs ks, DGet.t hv (g _ _ hb), ?_⟩
      rcases RpT.val ks rr with ⟨v, d, q1, q2, q3⟩ | ⟨q1, q2⟩
      · exact .inl ⟨v, d, q1, q2, q3⟩
      · exact .inr ⟨q1, q2⟩
    | _ => cases h
  | lst xs => cases h
  | obj C fs => cases h
  | gone => cases h
  | fz d => cases h
theorem putN_run {nd nd' : Nd} {k d : DD} {y v : V} (g : SB W G H) (n : NdR W G H p nd) (r : Rp W.K W.cm G y k) (rv : Rp W.K W.cm G v d) (h : putN nd k d = some nd') : ∃ o, DPut H p y v (upd H p o) ∧ NdR W G (upd H p o) p nd' := by
  cases nd with
  | dK kvs =>
    obtain ⟨vs, hv, rr⟩ := n
    have h : (if kvs.length < sizeLine then (keyD k).map fun k => Nd.dK (putKD kvs k d) else none) = some nd' := h
    split at h
    · rename_i hl
      obtain ⟨k', h1, rfl⟩ := Option.map_eq_some_iff.mp h
      exact ⟨_, by rw [r.key h1]; exact DPut.k hv (by rw [rr.len]; exact hl), _, upd_same, rr.put rv⟩
    · cases h
  | dT kvs =>
    obtain ⟨vs, hv, rr⟩ := n
    cases k with
    | tup ds =>
      have h : (if kvs.length < sizeLine then (keysDt ds).map fun k => Nd.dT (putT kvs k d) else none) = some nd' := h
      split at h
      · rename_i hl
        obtain ⟨ks, h1, rfl⟩ := Option.map_eq_some_iff.mp h
        cases r with | tup hb ra =>
        rename_i b ws
        have e := RpA.keysD ra h1
        subst e
        exact ⟨_, DPut.t hv (g _ _ hb) (by rw [RpT.len rr]; exact hl), _, upd_same, RpT.put rr rv⟩
      · cases h
    | _ => cases h
  | lst xs => cases h
  | obj C fs => cases h
  | gone => cases h
  | fz d => cases h
end
section
variable {W : Wp} {Wx : L2.St → XK} {te tk tx td ty : TE} {δe δk δx δd δy : DE}
/-- {}, keys to be flat tuples -/
def dNewT : DE := fun ρ τ => match τ with
  | some t => .ok (.ptr t.st.length) (some { t with st := t.st ++ [.dT []] })
  | none => .no
theorem dn_newT (hW : StW W) : Dn W Wx tDNewT dNewT := fun tp G H σ ρ τ Q E P => by
  unfold dNewT at P
  split at P
  · rename_i t
    cases tp with
    | none => exact (show False from E.t).elim
    | some a =>
      intro p n
      obtain ⟨x1, x2, x3⟩ := EnvV.newM hW E (nd := .dT []) (o := .dT []) n ⟨[], upd_same, .nil⟩
      exact P (.ref p) _ _ x1 x2 (.ptr x3)
  · exact P.elim
def dNewK : DE := fun ρ τ => match τ with
  | some t => .ok (.ptr t.st.length) (some { t with st := t.st ++ [.dK []] })
  | none => .no
theorem dn_newK (hW : StW W) : Dn W Wx tDNewK dNewK := fun tp G H σ ρ τ Q E P => by
  unfold dNewK at P
  split at P
  · rename_i t
    cases tp with
    | none => exact (show False from E.t).elim
    | some a =>
      intro p n
      obtain ⟨x1, x2, x3⟩ := EnvV.newM hW E (nd := .dK []) (o := .dK []) n ⟨[], upd_same, .nil⟩
      exact P (.ref p) _ _ x1 x2 (.ptr x3)
  · exact P.elim
/-- x[k] = e -/
def dDPut (x k e : DE) : DS := fun ρ τ => stE (e ρ τ) ρ fun d τ1 => stE (x ρ τ1) ρ fun u τ2 => stE (k ρ τ2) ρ fun n τ3 => match u, τ3 with
  | .ptr q, some t => match t.st[q]? with
    | some nd => match putN nd n d with
      | some nd' => .ok (.nx ρ) (some { t with st := t.st.set q nd' })
      | none => .no
    | none => .no
  | _, _ => .no
theorem putN_nf {nd nd' : Nd} {k d : DD} (h : putN nd k d = some nd') : nd.isFz = false := by
  cases nd <;> first | rfl | cases h
theorem ds_dPut (hW : StW W) (hx : Dn W Wx tx δx) (hk : Dn W Wx tk δk) (he : Dn W Wx te δe) : DnS W Wx (tAsg te (L2.gSub tx tk rSetD)) (dDPut δx δk δe) := fun tp0 G0 H0 tp G H σ ρ τ D E P =>
  he _ _ _ _ _ _ _ E.v (P.bind E fun d τ1 y G1 H1 E1 e1 r1 P1 => hx _ _ _ _ _ _ _ E1.v (P1.bind E1 fun u τ2 w G2 H2 E2 e2 r2 P2 => hk _ _ _ _ _ _ _ E2.v (P2.bind E2 fun n τ3 z G3 H3 E3 e3 r3 P3 => by
    split at P3
    · rename_i q t
      split at P3
      · rename_i nd hq
        split at P3
        · rename_i nd' hj
          obtain ⟨a, p, rfl, rfl, hm, hp, nr⟩ := E3.v.sto (r2.mono e3.g) hq
          obtain ⟨o, h1, h2⟩ := putN_run E3.v.g nr r3 (Rp.mono (e2.g.trans e3.g) r1) hj
          exact ⟨p, _, rfl, h1, P3 (some a) _ _ σ (GS.refl _) (EnvS.putM hW E3 hp hq (putN_nf hj) h2)⟩
        · exact P3.elim
      · exact P3.elim
    · exact P3.elim)))
/-- d[k], d a dict of the store -/
def dSDGet (d y : DE) : DE := fun ρ τ => (d ρ τ).bind fun x τ1 => (y ρ τ1).bind fun k τ2 => match x, τ2 with
  | .ptr q, some t => match t.st[q]? with
    | some nd => match getN nd k with
      | some (some z) => .ok z τ2
      | _ => .no
    | none => .no
  | _, _ => .no
theorem dn_sdget (hd : Dn W Wx td δd) (hy : Dn W Wx ty δy) : Dn W Wx (tDGet td ty) (dSDGet δd δy) := fun tp G H σ ρ τ Q E P =>
  hd _ _ _ _ _ _ _ E (P.bind fun a τ1 x G1 H1 e1 E1 r1 P1 => hy _ _ _ _ _ _ _ E1 (P1.bind fun b τ2 y G2 H2 e2 E2 r2 P2 => by
    split at P2
    · rename_i q t
      split at P2
      · rename_i nd hq
        split at P2
        · rename_i z hz
          obtain ⟨a, p, rfl, rfl, hm, hp, nr⟩ := E2.sto (r1.mono e2.g) hq
          obtain ⟨ov, h1, h2⟩ := getN_run E2.g nr r2 hz
          rcases h2 with ⟨v, d, rfl, h3, h4⟩ | ⟨_, h3⟩
          · cases h3
            exact ⟨p, v, rfl, h1, P2 _ G2 H2 Ext.refl E2 h4⟩
          · cases h3
        · exact P2.elim
      · exact P2.elim
    · exact P2.elim))
/-- y in d -/
def dSDIn (neg : Bool) (y d : DE) : DE := fun ρ τ => (y ρ τ).bind fun k τ1 => (d ρ τ1).bind fun x τ2 => match x, τ2 with
  | .ptr q, some t => match t.st[q]? with
    | some nd => match getN nd k with
      | some o => .ok (.bl (if neg then !o.isSome else o.isSome)) τ2
      | _ => .no
    | none => .no
  | _, _ => .no
theorem sdin_run {neg : Bool} (hy : Dn W Wx ty δy) (hd : Dn W Wx td δd) : Dn W Wx (fun σ H Q => ty σ H fun y H1 => td σ H1 fun x H2 => ∃ a o, x = .ref a ∧ DGet H2 a y o ∧ Q (.bl (if neg then !o.isSome else o.isSome)) H2) (dSDIn neg δy δd) := fun tp G H σ ρ τ Q E P =>
  hy _ _ _ _ _ _ _ E (P.bind fun a τ1 x G1 H1 e1 E1 r1 P1 => hd _ _ _ _ _ _ _ E1 (P1.bind fun b τ2 y G2 H2 e2 E2 r2 P2 => by
    split at P2
    · rename_i q t
      split at P2
      · rename_i nd hq
        split at P2
        · rename_i o hz
          obtain ⟨a, p, rfl, rfl, hm, hp, nr⟩ := E2.sto r2 hq
          obtain ⟨ov, h1, h2⟩ := getN_run E2.g nr (r1.mono e2.g) hz
          refine ⟨p, ov, rfl, h1, ?_⟩
          have : ov.isSome = o.isSome := by
            rcases h2 with ⟨v, d, rfl, rfl, _⟩ | ⟨rfl, rfl⟩ <;> rfl
          rw [this]
          exact P2 _ G2 H2 Ext.refl E2 (.bl _)
        · exact P2.elim
      · exact P2.elim
    · exact P2.elim))
theorem dn_sdin (hy : Dn W Wx ty δy) (hd : Dn W Wx td δd) : Dn W Wx (tDIn ty td) (dSDIn false δy δd) := sdin_run (neg := false) hy hd
/-- d.get(k, x) -/
def isDct (t : Tau) (q : Nat) : Bool := match t.st[q]? with
  | some (.dK _) => true
  | some (.dT _) => true
  | _ => false
def dSDGet2 (d y x : DE) : DE := fun ρ τ => (d ρ τ).bind fun c τ1 => match c, τ1 with
  | .ptr q, some t1 => if isDct t1 q = true then (y ρ τ1).bind fun k τ2 => (x ρ τ2).bind fun z τ3 => match τ3 with
      | some t => match t.st[q]? with
        | some nd => match getN nd k with
          | some o => .ok (o.getD z) τ3
          | none => .no
        | none => .no
      | none => .no
    else .no
  | _, _ => .no
theorem dn_sdget2 (hd : Dn W Wx td δd) (hy : Dn W Wx ty δy) (hx : Dn W Wx tx δx) : Dn W Wx (tDGet2 td ty tx) (dSDGet2 δd δy δx) := fun tp G H σ ρ τ Q E P =>
  hd _ _ _ _ _ _ _ E (P.bind fun a τ1 x G1 H1 e1 E1 r1 P1 => by
    split at P1
    · rename_i q t1
      split at P1
      · rename_i hl
        have hk : (∃ vs, ∃ p, x = .ref p ∧ H1 p = some (.dK vs)) ∨ ∃ vs, ∃ p, x = .ref p ∧ H1 p = some (.dT vs) := by
          unfold isDct at hl
          split at hl
          · rename_i kvs e
            obtain ⟨a, p, rfl, rfl, hm, hp, vs, hv, _⟩ := E1.sto r1 e
            exact .inl ⟨vs, p, rfl, hv⟩
          · rename_i kvs e
            obtain ⟨a, p, rfl, rfl, hm, hp, vs, hv, _⟩ := E1.sto r1 e
            exact .inr ⟨vs, p, rfl, hv⟩
          · cases hl
        obtain ⟨p, rfl, hb⟩ : ∃ p, x = .ref p ∧ ((∃ kvs, Rd H1 p (.dK kvs)) ∨ ∃ kvs, Rd H1 p (.dT kvs)) := by
          rcases hk with ⟨vs, p, e, h⟩ | ⟨vs, p, e, h⟩
          · exact ⟨p, e, .inl ⟨vs, .inl h⟩⟩
          · exact ⟨p, e, .inr ⟨vs, .inl h⟩⟩
        refine ⟨p, rfl, hb, hy _ _ _ _ _ _ _ E1 (P1.bind fun b τ2 y G2 H2 e2 E2 r2 P2 => hx _ _ _ _ _ _ _ E2 (P2.bind fun z τ3 u G3 H3 e3 E3 r3 P3 => ?_))⟩
        split at P3
        · rename_i t
          split at P3
          · rename_i nd hq
            split at P3
            · rename_i o hz
              obtain ⟨a, p', ea, ep, hm, hp, nr⟩ := E3.sto (r1.mono (e2.g.trans e3.g)) hq
              cases ep
              obtain ⟨ov, h1, h2⟩ := getN_run E3.g nr (r2.mono e3.g) hz
              refine ⟨ov, h1, ?_⟩
              rcases h2 with ⟨v, d, rfl, rfl, h4⟩ | ⟨rfl, rfl⟩
              · exact P3 _ G3 H3 Ext.refl E3 h4
              · exact P3 _ G3 H3 Ext.refl E3 r3
            · exact P3.elim
          · exact P3.elim
        · exact P3.elim
      · exact P1.elim
    · exact P1.elim)
end
end Np
set_option Elab.async false
set_option linter.all false
set_option maxRecDepth 100000
set_option maxHeartbeats 4000000
namespace Np
open PySem PySem.Spec PyProof.Rows L2
end Np
set_option Elab.async false
set_option linter.all false
set_option maxRecDepth 100000
set_option maxHeartbeats 4000000
namespace Np
open PySem PySem.Spec PyProof.Rows L2
def intKs : List (Key × DD) → Option (List Int)
  | [] => some []
  | (.inl i, _) :: r => (intKs r).map fun ks => i :: ks
  | _ => none
def strKs : List (Key × DD) → Option (List Str)
  | [] => some []
  | (.inr i, _) :: r => (strKs r).map fun ks => i :: ks
  | _ => none
section
variable {K : PySem.W.Frag} {cm : CM} {H : GH}
theorem RpK.intKs_of : ∀ {us : List (Key × V)} {kvs : List (Key × DD)} {ks : List Int}, RpK K cm H us kvs → intKs kvs = some ks → us.map (·.1) = ks.map Sum.inl
  | _, _, _, .nil, h => by cases h; rfl
  | _, (.inl i, _) :: _, _, .cons _ rr, h => by
    obtain ⟨ks, h1, rfl⟩ := Option.map_eq_some_iff.mp h
    rw [List.map_cons, RpK.intKs_of rr h1]
    rfl
  | _, (.inr i, _) :: _, _, .cons _ rr, h => by cases h
theorem RpK.strKs_of : ∀ {us : List (Key × V)} {kvs : List (Key × DD)} {ks : List Str}, RpK K cm H us kvs → strKs kvs = some ks → us.map (·.1) = ks.map Sum.inr
  | _, _, _, .nil, h => by cases h; rfl
  | _, (.inr i, _) :: _, _, .cons _ rr, h => by
    obtain ⟨ks, h1, rfl⟩ := Option.map_eq_some_iff.mp h
    rw [List.map_cons, RpK.strKs_of rr h1]
    rfl
  | _, (.inl i, _) :: _, _, .cons _ rr, h => by cases h
end
theorem intKs_len : ∀ {kvs : List (Key × DD)} {ks : List Int}, intKs kvs = some ks → ks.length = kvs.length
  | [], _, h => by cases h; rfl
  | (.inl i, _) :: r, _, h => by
    obtain ⟨ks, h1, rfl⟩ := Option.map_eq_some_iff.mp h
    rw [List.length_cons, List.length_cons, intKs_len h1]
  | (.inr i, _) :: r, _, h => by cases h
section
variable {W : Wp} {Wx : L2.St → XK} {te tk tx td ty : TE} {δe δk δx δd δy : DE}
def dSetd (d y x : DE) : DE := fun ρ τ => (d ρ τ).bind fun c τ1 => match c, τ1 with
  | .ptr q, some t1 => if isDct t1 q = true then (y ρ τ1).bind fun k τ2 => (x ρ τ2).bind fun z τ3 => match τ3 with
      | some t => match t.st[q]? with
        | some (.dK kvs) => match keyD k with
          | some k => if kvs.length < sizeLine then match valD kvs k with
              | some w => .ok w τ3
              | none => .ok z (some (putSt t q (.dK (putKD kvs k z))))
            else .no
          | none => .no
        | _ => .no
      | none => .no
    else .no
  | _, _ => .no
/-- what a thing of the store is now, values alone -/
theorem EnvV.putM {G : GH} {H : Hp} {σ : L2.St} {ρ : PEnv} {a p : Addr} {o : HO} {t : Tau} {k : Nat} {nd nd' : Nd} (hW : StW W) (E : EnvV W (some a) G H σ ρ (some t)) (hk : G.ads[k]? = some p) (h : t.st[k]? = some nd) (nf : nd.isFz = false) (h' : NdR W G (upd H p o) p nd') :
    Ext (some a) G H G (upd H p o) ∧ EnvV W (some a) G (upd H p o) σ ρ (some (putSt t k nd')) := by
  have pm := List.mem_of_getElem? hk
  have e0 : EnvS W (some a) ⟨fun _ => none, G.ads⟩ (fun _ => none) (some a) G H σ ρ (some t) :=
    ⟨E, ⟨⟨fun _ _ h => (nomatch h), List.prefix_rfl⟩, fun _ _ _ _ h => (nomatch h), fun _ _ h => (h rfl).elim, fun _ h => (h rfl).elim, fun q hq => .inr rfl, fun z => (nomatch z)⟩, fun _ _ _ _ _ _ _ _ _ => rfl, .inl rfl⟩
  have e1 := EnvS.putM hW e0 hk h nf h'
  refine ⟨⟨GS.refl _, fun q u hq _ hu => by rw [upd_ne (fun z => (hq a rfl).2 (by rw [z]; exact pm))]; exact hu, fun _ _ _ hg => hg, fun q hq => ?_, fun q hq => .inl hq, fun z => (nomatch z)⟩, e1.v⟩
  by_cases z : q = p
  · rw [z, upd_same]; simp
  · rw [upd_ne z]; exact hq
theorem dn_setd (hW : StW W) (hd : Dn W Wx td δd) (hy : Dn W Wx ty δy) (hx : Dn W Wx tx δx) : Dn W Wx (tDSetd td ty tx) (dSetd δd δy δx) := fun tp G H σ ρ τ Q E P =>
  hd _ _ _ _ _ _ _ E (P.bind fun a τ1 x G1 H1 e1 E1 r1 P1 => by
    split at P1
    · rename_i q t1
      split at P1
      · rename_i hl
        have hk : (∃ vs, ∃ p, x = .ref p ∧ H1 p = some (.dK vs)) ∨ ∃ vs, ∃ p, x = .ref p ∧ H1 p = some (.dT vs) := by
          unfold isDct at hl
          split at hl
          · rename_i kvs e
            obtain ⟨a, p, rfl, rfl, hm, hp, vs, hv, _⟩ := E1.sto r1 e
            exact .inl ⟨vs, p, rfl, hv⟩
          · rename_i kvs e
            obtain ⟨a, p, rfl, rfl, hm, hp, vs, hv, _⟩ := E1.sto r1 e
            exact .inr ⟨vs, p, rfl, hv⟩
          · cases hl
        obtain ⟨p, rfl, hb⟩ : ∃ p, x = .ref p ∧ IsD H1 p := by
          rcases hk with ⟨vs, p, e, h⟩ | ⟨vs, p, e, h⟩
          · exact ⟨p, e, .inl ⟨vs, .inl h⟩⟩
          · exact ⟨p, e, .inr ⟨vs, .inl h⟩⟩
        refine ⟨p, rfl, hb, hy _ _ _ _ _ _ _ E1 (P1.bind fun b τ2 y G2 H2 e2 E2 r2 P2 => hx _ _ _ _ _ _ _ E2 (P2.bind fun z τ3 u G3 H3 e3 E3 r3 P3 => ?_))⟩
        split at P3
        · rename_i t
          split at P3
          · rename_i kvs hq
            split at P3
            · rename_i k hkk
              split at P3
              · rename_i hlt
                obtain ⟨a, p', rfl, ep, hm, hp, vs, hv, rr⟩ := E3.sto (r1.mono (e2.g.trans e3.g)) hq
                cases ep
                refine ⟨vs, k, hv, (r2.key hkk), by rw [rr.len]; exact hlt, fun v hv2 => ?_, fun hv2 => ?_⟩
                · rcases rr.val k with ⟨v', d, q1, q2, q3⟩ | ⟨q1, q2⟩
                  · rw [hv2] at q1
                    cases q1
                    rw [q2] at P3
                    exact P3 _ G3 H3 Ext.refl E3 q3
                  · rw [hv2] at q1
                    cases q1
                · rcases rr.val k with ⟨v', d, q1, q2, q3⟩ | ⟨q1, q2⟩
                  · rw [hv2] at q1
                    cases q1
                  · rw [q2] at P3
                    obtain ⟨x1, x2⟩ := E3.putM hW hp hq rfl (nd' := .dK (putKD kvs k z)) (o := .dK (putK vs k u)) ⟨_, upd_same, rr.put r3⟩
                    exact P3 _ G3 _ x1 x2 r3
              · exact P3.elim
            · exact P3.elim
          · exact P3.elim
        · exact P3.elim
      · exact P1.elim
    · exact P1.elim)
def rSortDK : List V → Hp → VK → Prop := fun xs H Q => (∃ (a : Addr) (kvs : List (Key × V)) (ks : List Int), xs = [.ref a] ∧ Rd H a (.dK kvs) ∧ kvs.map (·.1) = ks.map Sum.inl ∧ ks.length < 64 ∧ ∀ (ys : List Int) (p : Addr), ys.Perm ks → ys.Pairwise (· ≤ ·) → H p = none → Q (.ref p) (upd H p (.lst (ys.map V.int)))) ∨
  (∃ (a : Addr) (kvs : List (Key × V)) (ks : List Str), xs = [.ref a] ∧ Rd H a (.dK kvs) ∧ kvs.map (·.1) = ks.map Sum.inr ∧ ks.length < 64 ∧ ∀ ys p, ys.Perm ks → sortedS ys = true → H p = none → Q (.ref p) (upd H p (.lst (ys.map V.str))))
theorem cr_sortDK {X : Cx} (hc : X.calm = true) : CallR X (.builtin "sorted") rSortDK := by
  intro pins s σ H xs us Q I r q
  rcases q with q | q
  · exact call_sortedDI hc pins s σ H xs us Q I r q
  · exact call_sortedD hc pins s σ H xs us Q I r q
def gSortDK (kvs : List (Key × DD)) : Option DD := match intKs kvs with
  | some ks => if ks.length < 64 then some (.lst ((sortI ks).map DD.int)) else none
  | none => match strKs kvs with
    | some ks => if ks.length < 64 then some (.lst ((srtS ks).map DD.str)) else none
    | none => none
def dSortDK (a : DA) : DE := fun ρ τ => (a ρ τ).bind fun xs τ1 => match xs, τ1 with
  | [.ptr q], some t => match t.st[q]? with
    | some (.dK kvs) => R.of τ1 (gSortDK kvs)
    | _ => .no
  | _, _ => .no
variable {ta : TA} {δa : DA}
theorem dn_sortDK (ha : DnA W Wx ta δa) : Dn W Wx (tCB rSortDK ta) (dSortDK δa) := fun tp G H σ ρ τ Q E P =>
  ha _ _ _ _ _ _ _ E (P.bind fun as τ1 vs G1 H1 e1 E1 r1 P1 => by
    split at P1
    · rename_i q t
      split at P1
      · rename_i kvs hq
        cases r1 with | cons r rr =>
        cases rr
        obtain ⟨a, p, rfl, rfl, hm, hp, us, hv, rk⟩ := E1.sto r hq
        obtain ⟨d, hd, P2⟩ := P1.of
        unfold gSortDK at hd
        split at hd
        · rename_i ks hks
          split at hd
          · rename_i hl
            cases hd
            refine .inl ⟨p, us, ks, rfl, .inl hv, rk.intKs_of hks, hl, fun ys l hy hs hn => ?_⟩
            rw [sorted_is hy hs]
            exact P2 _ _ _ (Ext.new hn E1.g) (E1.new hn) (.lst upd_same (RpA.intsD _))
          · cases hd
        · split at hd
          · rename_i ks hks
            split at hd
            · rename_i hl
              cases hd
              refine .inr ⟨p, us, ks, rfl, .inl hv, rk.strKs_of hks, hl, fun ys l hy hs hn => ?_⟩
              rw [srtS_eq hy (sorted_pw hs)]
              exact P2 _ _ _ (Ext.new hn E1.g) (E1.new hn) (.lst upd_same (RpA.strsD _))
            · cases hd
          · cases hd
      · exact P1.elim
    · exact P1.elim)
def dKeysLe (cls f : Str) (v i j : Nat) : DE := fun ρ τ => match ρ[v]?, ρ[i]?, τ with
  | some (some (.fr (.ptr k))), some (some (.fr (.int n))), some t => match objAt t.st k with
    | some (C, fs) => if C = cls ∧ j < ρ.length then match fs.lookup f with
        | some (.ptr q) => match t.st[q]? with
           | some (.dK kvs) => match intKs kvs with
              | some ks => if kvs.length ≤ sizeLine then .ok (.lst ((ks.filter fun a => decide (a ≤ n)).map DD.int)) τ else .no
              | none => .no
           | _ => .no
        | _ => .no
      else .no
    | none => .no
  | _, _, _ => .no
theorem dn_keysLe {cls f : Str} {v i j : Nat} (hC : Cls W.K (W.cm cls)) (hn : NoAttr W.K (W.cm cls) f) (hv : i ≠ j) :
    Dn W Wx (tLockE (tLc (iKeys (tFld W.K (tVar v) f)) (gName j) (tTest (tOp (rI0 fun i j => .bl (decide (i ≤ j))) (tVar j) (tVar i))) (tVar j) [j])) (dKeysLe cls f v i j) := fun tp G H σ ρ τ Q E P => by
  unfold dKeysLe at P
  split at P
  · rename_i k n t h1 h2
    split at P
    · rename_i C fs ho
      split at P
      · rename_i hj
        obtain ⟨rfl, hj⟩ := hj
        split at P
        · rename_i q hl
          split at P
          · rename_i kvs hq
            split at P
            · rename_i ks hks
              split at P
              · rename_i hsz
                obtain ⟨x, hx, rx⟩ := Paired.getL E.s h1
                obtain ⟨y, hy, ry⟩ := Paired.getL E.s h2
                cases x with
                | none => exact rx.elim
                | some x =>
                cases y with
                | none => exact ry.elim
                | some y =>
                have ry : Rp W.K W.cm G y (.int n) := ry
                cases ry.int_of
                obtain ⟨a, p, dx, vs, rfl, rfl, _, hp, rf⟩ := E.objS rx ho
                obtain ⟨w, hw, rw0⟩ := rf.look hl
                obtain ⟨a', d, ea, rfl, hm, hpd, us, hu, ru⟩ := E.sto rw0 hq
                have ap : p ≠ d := by
                  rintro rfl
                  rw [hu] at hp
                  cases hp
                have hkeys := ru.intKs_of hks
                have hul : us.length = ks.length := by
                  have := congrArg List.length hkeys
                  simpa using this
                have hsl : j < σ.length := by rw [Paired.length E.s]; exact hj
                refine ⟨d, .dK us, hu, trivial, fun od => ⟨_, hx, p, _, dx, vs, _, rfl, by rw [upd_ne ap]; exact hp, hC, hn, hw, d, od, rfl, .inl ⟨us, upd_same, fun D nD => ?_⟩⟩⟩
                have dD : d ≠ D := by
                  rintro rfl
                  rw [upd_same] at nD
                  cases nD
                have nD' : H D = none := by rw [upd_ne dD.symm] at nD; exact nD
                let L : Nat → List Int := fun m => (ks.take m).filter fun a => decide (a ≤ n)
                refine ⟨fun m mm H2 => mm = us.length - m ∧ m ≤ us.length ∧ H2 = upd (upd H d (.frz od (.dK us))) D (.lst ((L m).map V.int)), ⟨us.length, by simp, Nat.zero_le _, rfl⟩, ?_⟩
                rintro m mm H2 ⟨rfl, hm, rfl⟩
                have hdd : upd (upd H d (.frz od (.dK us))) D (.lst ((L m).map V.int)) d = some (.frz od (.dK us)) := by rw [upd_ne dD, upd_same]
                by_cases hlt : m < us.length
                · have hk : ks[m]? = some (ks[m]'(by omega)) := List.getElem?_eq_getElem (by omega)
                  have hL : L (m + 1) = if decide (ks[m]'(by omega) ≤ n) = true then L m ++ [ks[m]'(by omega)] else L m := by
                    show List.filter _ (ks.take (m + 1)) = _
                    rw [List.take_add_one, hk, Option.toList_some, List.filter_append]
                    by_cases hb : ks[m]'(by omega) ≤ n
                    · rw [if_pos (by simpa using hb), List.filter_cons_of_pos (by simpa using hb)]
                      rfl
                    · rw [if_neg (by simpa using hb), List.filter_cons_of_neg (by simpa using hb)]
                      show L m ++ [] = L m
                      rw [List.append_nil]
                  refine .inr ⟨⟨hdd, hlt⟩, fun H3 => H3 = upd (upd H d (.frz od (.dK us))) D (.lst ((L (m + 1)).map V.int)), fun H3 e => ⟨us.length - (m + 1), by omega, rfl, hlt, e⟩, fun z H3 yl => ?_⟩
                  obtain ⟨rfl, kk, w, hkk, rfl⟩ := yl
                  have ek : kk = Sum.inl (ks[m]'(by omega)) := by
                    have h0 : (us.map (·.1))[m]? = some kk := by rw [List.getElem?_map, hkk]; rfl
                    rw [hkeys, List.getElem?_map, hk] at h0
                    cases h0
                    rfl
                  subst ek
                  have hself : (((L2.wipe σ [j]).set j (some (V.int (ks[m]'(by omega))))))[j]? = some (some (V.int (ks[m]'(by omega)))) := by
                    show ((σ.set j none).set j _)[j]? = _
                    rw [List.set_set, List.getElem?_set_self (by simpa using hsl)]
                  have hoth : (((L2.wipe σ [j]).set j (some (V.int (ks[m]'(by omega))))))[i]? = some (some (V.int n)) := by
                    show ((σ.set j none).set j _)[i]? = _
                    rw [List.set_set, List.getElem?_set_ne (fun z => hv z.symm)]
                    exact hy
                  refine ⟨?_, _, hself, _, hoth, _, _, rfl, rfl, _, rfl, ?_⟩
                  · show ((σ.set j none).set j _).set j none = σ.set j none
                    rw [List.set_set, List.set_set]
                  · dsimp only
                    by_cases hb : ks[m]'(by omega) ≤ n
                    · rw [if_pos (by simpa using hb)]
                      refine ⟨_, hself, (L m).map V.int, upd_same, ?_, ?_⟩
                      · have h5 : (L m).length ≤ m := by
                          refine Nat.le_trans (List.length_filter_le _ _) ?_
                          rw [List.length_take]
                          omega
                        have h6 : ks.length = kvs.length := intKs_len hks
                        rw [List.length_map]
                        omega
                      · rw [upd_upd, hL, if_pos (by simpa using hb), List.map_append]
                        rfl
                    · rw [if_neg (by simpa using hb)]
                      show _ = upd _ _ _
                      rw [hL, if_neg (by simpa using hb)]
                · have e : m = us.length := by omega
                  subst e
                  refine .inl ⟨⟨hdd, Nat.le_refl _⟩, hdd, ?_⟩
                  have eH : upd (upd (upd H d (.frz od (.dK us))) D (.lst ((L us.length).map V.int))) d (.dK us) = upd H D (.lst ((L us.length).map V.int)) := by
                    funext b
                    by_cases hb : b = d
                    · subst hb
                      rw [upd_same, upd_ne dD]
                      exact hu.symm
                    · rw [upd_ne hb]
                      by_cases hb2 : b = D
                      · subst hb2
                        rw [upd_same, upd_same]
                      · rw [upd_ne hb2, upd_ne hb2, upd_ne hb]
                  rw [eH]
                  have eL : L us.length = ks.filter fun a => decide (a ≤ n) := by
                    show List.filter _ (ks.take us.length) = _
                    rw [hul, List.take_length]
                  rw [eL]
                  exact P _ _ _ (Ext.new nD' E.g) (E.new nD') (.lst upd_same (RpA.intsD _))
              · exact P.elim
            · exact P.elim
          · exact P.elim
        · exact P.elim
      · exact P.elim
    · exact P.elim
  · exact P.elim
end
def rMaxD (K : PySem.W.Frag) : List V → List V → Hp → VK → Prop := fun vs zs H Q => ∃ (a : Addr) (ns : List Int), vs = [.ref a] ∧ zs = [.non] ∧ SqL K H a (ns.map V.int) ∧ (ns = [] → Q .non H) ∧ ∀ n ms, ns = n :: ms → Q (.int (maxL n ms)) H
theorem maxOf_int : ∀ (ys : List Int) (y : Int), PySem.W.maxOf y ys = maxL y ys
  | [], y => rfl
  | z :: ys, y => by
    show PySem.W.maxOf (if PySem.W.DatumOrd.lt y z = true then z else y) ys = maxL (max y z) ys
    have e : (if PySem.W.DatumOrd.lt y z = true then z else y) = max y z := by
      show (if decide (y < z) = true then z else y) = _
      by_cases h : y < z <;> simp [h] <;> omega
    rw [e, maxOf_int ys]
section
variable {X : Cx} {k : Nat}
theorem cr_maxD (hc : X.calm = true) (hr : Room k X.A) : CallRK X (.builtin "max") [Str.ofString "default"] (rMaxD X.K) := by
  intro pins s σ H vs zs us ws Q I r rz h
  obtain ⟨a, ns, rfl, rfl, hl, h0, h1⟩ := h
  obtain rfl := Vals.ref1 r
  cases rz with | cons rz rr =>
  cases rr
  cases rz
  obtain ⟨its, rv, pl, _⟩ := I.list hl
  show wpAny _ _ (call (.builtin "max") [.ref a] [(Str.ofString "default", .none)]) _ _ _
  refine PySem.W.max_list_datum_default (α := Int) (xs := ns) (I.ok.hd hc) pl.isList (by simpa using PySem.W.HoldAll.of_ints rv.ints) (by have := hr.un; show X.A.units + 1 + 0 < _; omega) (fun e h' tk hk => ⟨.non, H, I.kept hk, rfl, h0 e⟩) fun y ys i v h' tk e hi hv hk => ?_
  obtain ⟨as, rd⟩ := hv
  rw [maxOf_int] at rd
  have : ∃ t, v = .int (maxL y ys) t := by
    cases rd
    exact ⟨_, rfl⟩
  obtain ⟨t, rfl⟩ := this
  exact ⟨.int _, H, I.kept hk, ⟨t, rfl⟩, h1 y ys e⟩
end
def gMaxD (ds : List DD) : Option DD := match ints? ds with
  | some [] => some .non
  | some (n :: ns) => some (.int (maxL n ns))
  | none => none
def dMaxD (a : DA) : DE := fun ρ τ => (a ρ τ).bind fun xs τ1 => match xs with
  | [.lst ds] => R.of τ1 (gMaxD ds)
  | _ => .no
section
variable {W : Wp} {Wx : L2.St → XK} {ta : TA} {δa : DA}
theorem dn_maxD (ha : DnA W Wx ta δa) : Dn W Wx (tCKw (rMaxD W.K) ta (tCons (tC .non) tNil)) (dMaxD δa) := fun tp G H σ ρ τ Q E P =>
  ha _ _ _ _ _ _ _ E (P.bind fun as τ1 vs G1 H1 e1 E1 r1 P1 => by
    split at P1
    · rename_i ds
      cases r1 with | cons r rr =>
      cases rr
      cases r with | lst hl ra =>
      rename_i l us
      obtain ⟨d, hd, P2⟩ := P1.of
      unfold gMaxD at hd
      split at hd
      · rename_i h1
        cases hd
        cases ints?_eq h1
        refine ⟨_, [], rfl, rfl, by rw [← ra.ints_of]; exact SqL.of (E1.g _ _ hl), fun _ => P2 _ G1 H1 Ext.refl E1 .non, fun n ms e => nomatch e⟩
      · rename_i n ns h1
        cases hd
        cases ints?_eq h1
        refine ⟨_, n :: ns, rfl, rfl, by rw [← ra.ints_of]; exact SqL.of (E1.g _ _ hl), (fun e => (nomatch e)), fun n' ms e => by cases e; exact P2 _ G1 H1 Ext.refl E1 (.int _)⟩
      · cases hd
    · exact P1.elim)
end
def tMethKE (C : Addr) (m : Str) (n k : Nat) (sp : Sp) (gV : List V → List V → List V) (E : L2.St → XK) (ta : TE) (t tk : TA) : TE := fun σ H Q => ta σ H fun x H1 => ∃ a dx fs, x = .ref a ∧ H1 a = some (.ins C dx fs) ∧ fs.lookup m = none ∧
  t σ H1 fun vs H2 => tk σ H2 fun zs H3 => vs.length = n ∧ zs.length = k ∧ sp (gV (x :: vs) zs) H3 Q (E σ)
def MeK (P : Program) (w : World) (K : PySem.W.Frag) (mg : Str → Option Value) (base : Heap) (CX : CXT) (k : Nat) (C : Addr) (m : Str) (ps : List Str) (sp : Sp) (n : Nat) (ks : List Str) (gV : List V → List V → List V) : Prop :=
  ∃ (f : Addr) (fd : FuncData), Meth K C m f ∧ FnG P w K mg base CX k f fd ps sp ∧ KB K fd ps (n + 1) ks gV
section
variable {X : Cx} {CX : CXT} {k n : Nat} {C : Addr} {ps ks : List Str} {sp : Sp} {E : L2.St → XK} {m : Str} {pos apos : Pos} {e o : Expr} {es : List Expr} {kws : List Keyword} {ta : TE} {t tk : TA} {gV : List V → List V → List V}
theorem pe_mK0 {pl : Sem Bool} (h : MeK X.prog X.w X.K X.mg X.base CX k C m ps sp 0 ks gV) (c : Cls X.K C) (hgd : X.A.guards = some []) (hr : Room k X.A) (hx : ∀ σ, PassesAt CX X σ (E σ)) (he : PE X o ta) (hkw : PK X kws tk)
    (hall : (backToKw pos (keywordEach kws X.env)).all (·.1.isSome) = true := by rfl) (hks : (backToKw pos (keywordEach kws X.env)).filterMap (·.1) = ks := by rfl)
    (hpl : ((backTo pos (starEach [] X.env)).any (·.1) || (backToKw pos (keywordEach kws X.env)).any (·.1.isNone)) = false := by rfl)
    (ht : eval (.Call (.Attribute o m apos) [] kws pos) X.env = (do
      let ov ← eval o X.env
      standAt apos.atName
      let (f, first) ← holding [ov] (getMethod ov m pl)
      callWith pos f first (backTo pos (starEach [] X.env)) (backToKw pos (keywordEach kws X.env))) := by rfl) :
    PE X (.Call (.Attribute o m apos) [] kws pos) (tMethKE C m 0 ks.length sp gV E ta tNil tk) := by
  obtain ⟨f, fd, hm, F, hb⟩ := h
  refine ⟨fun pins s σ H Q I h => ?_⟩
  refine PySem.W.methodCall_KW (pl := pl) (L2.thn (he.run pins s σ H _ I h) fun u s1 ⟨x, H1, I1, rx, a, dx, fs, ex, ea, l, q⟩ => ?_) ht
  subst ex
  obtain rfl : u = Value.ref a := rx
  refine getmeth_ok I1 ea c hm l ?_
  refine PySem.W.callWith_KW0 (first := [.ref a]) (h₀ := X.base) I.ok.mod.kin hm.kp hall ?_ hpl
  refine L2.thn (hkw.run pos pins s1 σ H1 _ I1 q) fun ws s3 hh2 => ?_
  obtain ⟨zs, H3, I3, rz, l1, l2, q3⟩ := hh2
  refine ⟨I3.kIn, ?_⟩
  rw [hks]
  exact run_gk (us := [.ref a]) (vs := [.ref a]) F hgd hr hb (hx σ) I3 (.cons rfl .nil) rz rfl l2 q3
end
/-- x.m(.., k=e), x an object of the store -/
def smK (k n m : Nat) (cls nm : Str) (F : Fn) (g : List PV → List PV → List PV) (x : DD) (τ1 : TS') (go : (List PV → List PV → TS' → R DD) → R DD) : R DD := match x, τ1 with
  | .ptr q, some t => match objAt t.st q with
    | some (C, fs) => if C = cls ∧ fs.lookup nm = none then go fun as bs τ => if as.length = n ∧ bs.length = m ∧ (g (.fr (.ptr q) :: as) bs).length = k then F (g (.fr (.ptr q) :: as) bs) τ else .no
      else .no
    | none => .no
  | _, _ => .no
def dSMeKN (k n m : Nat) (cls nm : Str) (F : Fn) (g : List PV → List PV → List PV) (a : DE) (r s : DPs) : DE := fun ρ τ => (a ρ τ).bind fun x τ1 => smK k n m cls nm F g x τ1 fun c => (r ρ τ1).bind fun as τ2 => (s ρ τ2).bind fun bs τ3 => (c as bs τ3).nox
section
variable {W : Wp} {Wx : L2.St → XK} {te : TE} {tr tz : TA} {δe : DE} {δr δz : DPs} {dvs : List V} {dv : List PV} {ix : List Ix}
theorem dn_smeKN {k n m : Nat} {cls nm : Str} {C : Addr} {F : Fn} (hC : W.cm cls = C) (hd : ∀ tp G, Paired (ArgR W tp G) dvs dv) (ha : Dn W Wx te δe) (hr : DnPs W Wx tr δr) (hz : DnPs W Wx tz δz) :
    Dn W Wx (tMethKE C nm n m (spP W k F) (pickL dvs ix) W0 te tr tz) (dSMeKN k n m cls nm F (pickL dv ix) δe δr δz) := fun tp G H σ ρ τ Q E P =>
  ha _ _ _ _ _ _ _ E (P.bind fun x τ1 v G1 H1 e1 E1 r1 P1 => by
    subst hC
    unfold smK at P1
    split at P1
    · rename_i q t
      split at P1
      · rename_i C fs ho
        by_cases h : C = cls ∧ fs.lookup nm = none
        · rw [if_pos h] at P1
          obtain ⟨rfl, hl⟩ := h
          obtain ⟨a, p, dx, vs, rfl, rfl, _, hp, rf⟩ := E1.objS r1 ho
          refine ⟨p, dx, vs, rfl, hp, rf.lookN hl, hr _ _ _ _ _ _ _ E1 (P1.bind fun as τ2 zs G2 H2 e2 E2 r2 P2 => hz _ _ _ _ _ _ _ E2 (P2.bind fun bs τ3 ys G3 H3 e3 E3 r3 P3 => ?_))⟩
          dsimp only at P3
          by_cases hk : as.length = n ∧ bs.length = m ∧ (pickL dv ix (.fr (.ptr q) :: as) bs).length = k
          · rw [if_pos hk] at P3
            have h0 : Paired (ArgR W (some a) G3) (.ref p :: zs) (.fr (.ptr q) :: as) := .cons (show ArgR W (some a) G3 _ (.fr _) from r1.mono (e2.g.trans e3.g)) (args_mono r2 e3.g)
            have h1 := pick_rel (hd (some a) G3) h0 r3 ix
            refine ⟨by rw [Paired.len r2]; exact hk.1, by rw [Paired.len r3]; exact hk.2.1, by rw [Paired.len h1]; exact hk.2.2, some a, G3, _, τ3, E3.g, h1, E3.t, ?_⟩
            revert P3
            cases F (pickL dv ix (.fr (.ptr q) :: as) bs) τ3 with
            | ok d τ' => exact fun P1 v G' H' e s t r => P1 v G' H' e (E3.ext e s t) r
            | ex x τ' => exact fun P1 => P1.elim
            | no => exact fun P1 => P1.elim
          · rw [if_neg hk] at P3
            exact P3.elim
        · rw [if_neg h] at P1
          exact P1.elim
      · exact P1.elim
    · exact P1.elim)
end
end Np
set_option Elab.async false
set_option linter.all false
set_option maxRecDepth 100000
set_option maxHeartbeats 4000000
namespace Np
open PySem PySem.Spec PyProof.Rows L2
def sdlook (t : Tau) (q : Nat) (k : DD) : Option (Option DD) := t.st[q]?.bind fun nd => getN nd k
def sdput (t : Tau) (q : Nat) (k d : DD) : Option Tau := t.st[q]?.bind fun nd => (putN nd k d).map fun nd' => putSt t q nd'
def sdsort (t : Tau) (q : Nat) : Option DD := match t.st[q]? with
  | some (.dK kvs) => gSortDK kvs
  | _ => none
def sdset (t : Tau) (q : Nat) (k z : DD) : R DD := match t.st[q]? with
  | some (.dK kvs) => match keyD k with
    | some k => if kvs.length < sizeLine then match valD kvs k with
        | some w => .ok w (some t)
        | none => .ok z (some (putSt t q (.dK (putKD kvs k z))))
      else .no
    | none => .no
  | _ => .no
def ofNx (ρ : PEnv) : Option Tau → R Ct
  | some t => .ok (.nx ρ) (some t)
  | none => .no
@[simp] theorem ofNx_some {ρ : PEnv} {t : Tau} : ofNx ρ (some t) = .ok (.nx ρ) (some t) := id rfl
section
variable {ρ : PEnv} {τ τ' : TS'} {a b c e o : DE} {r s : DPs} {k n m : Nat} {F : Fn} {g : List PV → List PV → List PV} {as bs : List PV} {cls mm f C : PySem.Str} {fs : List (PySem.Str × DD)} {d x y z : DD} {t : Tau} {nd nd' : Nd}
@[simp] theorem ev_NewK : dNewK ρ (some t) = .ok (.ptr t.st.length) (some (pushSt t (.dK []))) := id rfl
@[simp] theorem ev_NewT : dNewT ρ (some t) = .ok (.ptr t.st.length) (some (pushSt t (.dT []))) := id rfl
def eSDGet2 (r : R DD) (x : DD) : R DD := r.bind fun k τ2 => match x, τ2 with
  | .ptr q, some t => R.of τ2 ((sdlook t q k).bind id)
  | _, _ => .no
def eSDGet1 (r : R DD) (y : DE) (ρ : PEnv) : R DD := r.bind fun x τ1 => eSDGet2 (y ρ τ1) x
@[simp] theorem ev_SDGet : dSDGet a b ρ τ = eSDGet1 (a ρ τ) b ρ := by
  unfold dSDGet eSDGet1 eSDGet2
  congr 1
  funext x τ1
  congr 1
  funext k τ2
  cases x <;> cases τ2 <;> try rfl
  rename_i q t
  unfold sdlook
  dsimp only
  cases t.st[q]? with
  | none => rfl
  | some nd =>
    dsimp only [Option.bind_some]
    cases getN nd k with
    | none => rfl
    | some o => cases o <;> rfl
@[simp] theorem eSDGet1_ok : eSDGet1 (.ok x τ) b ρ = eSDGet2 (b ρ τ) x := id rfl
@[simp] theorem eSDGet2_ok {q : Nat} : eSDGet2 (.ok z (some t)) (.ptr q) = R.of (some t) ((sdlook t q z).bind id) := id rfl
def eSDIn2 (r : R DD) (neg : Bool) (k : DD) : R DD := r.bind fun x τ2 => match x, τ2 with
  | .ptr q, some t => R.of τ2 ((sdlook t q k).map fun o => .bl (if neg then !o.isSome else o.isSome))
  | _, _ => .no
def eSDIn1 (r : R DD) (neg : Bool) (c : DE) (ρ : PEnv) : R DD := r.bind fun k τ1 => eSDIn2 (c ρ τ1) neg k
@[simp] theorem ev_SDIn {neg : Bool} : dSDIn neg a b ρ τ = eSDIn1 (a ρ τ) neg b ρ := by
  unfold dSDIn eSDIn1 eSDIn2
  congr 1
  funext k τ1
  congr 1
  funext x τ2
  cases x <;> cases τ2 <;> try rfl
  rename_i q t
  unfold sdlook
  dsimp only
  cases t.st[q]? with
  | none => rfl
  | some nd =>
    dsimp only [Option.bind_some]
    cases getN nd k <;> rfl
@[simp] theorem eSDIn1_ok {neg : Bool} : eSDIn1 (.ok x τ) neg b ρ = eSDIn2 (b ρ τ) neg x := id rfl
@[simp] theorem eSDIn2_ok {neg : Bool} {q : Nat} : eSDIn2 (.ok (.ptr q) (some t)) neg z = R.of (some t) ((sdlook t q z).map fun o => .bl (if neg then !o.isSome else o.isSome)) := id rfl
def eSDG3 (r : R DD) (q : Nat) (k : DD) : R DD := r.bind fun z τ3 => match τ3 with
  | some t => R.of τ3 ((sdlook t q k).map fun o => o.getD z)
  | none => .no
def eSDG2 (r : R DD) (q : Nat) (x : DE) (ρ : PEnv) : R DD := r.bind fun k τ2 => eSDG3 (x ρ τ2) q k
def eSDG1 (r : R DD) (y x : DE) (ρ : PEnv) : R DD := r.bind fun c τ1 => match c, τ1 with
  | .ptr q, some t1 => if isDct t1 q = true then eSDG2 (y ρ τ1) q x ρ else .no
  | _, _ => .no
@[simp] theorem ev_SDGet2 : dSDGet2 a b c ρ τ = eSDG1 (a ρ τ) b c ρ := by
  unfold dSDGet2 eSDG1 eSDG2 eSDG3
  congr 1
  funext x τ1
  cases x <;> cases τ1 <;> try rfl
  rename_i q t1
  dsimp only
  congr 1
  congr 1
  funext k τ2
  congr 1
  funext z τ3
  cases τ3 with
  | none => rfl
  | some t =>
    unfold sdlook
    dsimp only
    cases t.st[q]? with
    | none => rfl
    | some nd =>
      dsimp only [Option.bind_some]
      cases getN nd k <;> rfl
@[simp] theorem eSDG1_ok {q : Nat} : eSDG1 (.ok (.ptr q) (some t)) b c ρ = if isDct t q = true then eSDG2 (b ρ (some t)) q c ρ else .no := id rfl
@[simp] theorem eSDG2_ok {q : Nat} : eSDG2 (.ok z τ) q c ρ = eSDG3 (c ρ τ) q z := id rfl
@[simp] theorem eSDG3_ok {q : Nat} : eSDG3 (.ok y (some t)) q z = R.of (some t) ((sdlook t q z).map fun o => o.getD y) := id rfl
def eSetd3 (r : R DD) (q : Nat) (k : DD) : R DD := r.bind fun z τ3 => match τ3 with
  | some t => sdset t q k z
  | none => .no
def eSetd2 (r : R DD) (q : Nat) (x : DE) (ρ : PEnv) : R DD := r.bind fun k τ2 => eSetd3 (x ρ τ2) q k
def eSetd1 (r : R DD) (y x : DE) (ρ : PEnv) : R DD := r.bind fun c τ1 => match c, τ1 with
  | .ptr q, some t1 => if isDct t1 q = true then eSetd2 (y ρ τ1) q x ρ else .no
  | _, _ => .no
@[simp] theorem ev_Setd : dSetd a b c ρ τ = eSetd1 (a ρ τ) b c ρ := by
  unfold dSetd eSetd1 eSetd2 eSetd3
  congr 1
  funext x τ1
  cases x <;> cases τ1 <;> try rfl
  rename_i q t1
  dsimp only
  congr 1
  congr 1
  funext k τ2
  congr 1
  funext z τ3
  cases τ3 with
  | none => rfl
  | some t => rfl
@[simp] theorem eSetd1_ok {q : Nat} : eSetd1 (.ok (.ptr q) (some t)) b c ρ = if isDct t q = true then eSetd2 (b ρ (some t)) q c ρ else .no := id rfl
@[simp] theorem eSetd2_ok {q : Nat} : eSetd2 (.ok z τ) q c ρ = eSetd3 (c ρ τ) q z := id rfl
@[simp] theorem eSetd3_ok {q : Nat} : eSetd3 (.ok y (some t)) q z = sdset t q z y := id rfl
def eDPut3 (r : R DD) (u d : DD) (ρ : PEnv) : R Ct := stE r ρ fun n τ3 => match u, τ3 with
  | .ptr q, some t => ofNx ρ (sdput t q n d)
  | _, _ => .no
def eDPut2 (r : R DD) (k : DE) (d : DD) (ρ : PEnv) : R Ct := stE r ρ fun u τ2 => eDPut3 (k ρ τ2) u d ρ
def eDPut1 (r : R DD) (x k : DE) (ρ : PEnv) : R Ct := stE r ρ fun d τ1 => eDPut2 (x ρ τ1) k d ρ
@[simp] theorem ev_DPut : dDPut a b c ρ τ = eDPut1 (c ρ τ) a b ρ := by
  unfold dDPut eDPut1 eDPut2 eDPut3
  congr 1
  funext d τ1
  congr 1
  funext u τ2
  congr 1
  funext n τ3
  cases u <;> cases τ3 <;> try rfl
  rename_i q t
  unfold sdput
  dsimp only
  cases t.st[q]? with
  | none => rfl
  | some nd =>
    dsimp only [Option.bind_some]
    cases putN nd n d <;> rfl
@[simp] theorem eDPut1_ok : eDPut1 (.ok d τ) a b ρ = eDPut2 (a ρ τ) b d ρ := id rfl
@[simp] theorem eDPut2_ok : eDPut2 (.ok x τ) b d ρ = eDPut3 (b ρ τ) x d ρ := id rfl
@[simp] theorem eDPut3_ok {q : Nat} : eDPut3 (.ok z (some t)) (.ptr q) d ρ = ofNx ρ (sdput t q z d) := id rfl
def eSortDK (r : R (List DD)) : R DD := r.bind fun xs τ1 => match xs, τ1 with
  | [.ptr q], some t => match t.st[q]? with
    | some (.dK kvs) => R.of τ1 (gSortDK kvs)
    | _ => .no
  | _, _ => .no
@[simp] theorem ev_SortDK {a : DA} : dSortDK a ρ τ = eSortDK (a ρ τ) := id rfl
@[simp] theorem eSortDK_ok {q : Nat} : eSortDK (.ok [.ptr q] (some t)) = R.of (some t) (sdsort t q) := by
  show (match t.st[q]? with
    | some (.dK kvs) => R.of (some t) (gSortDK kvs)
    | _ => .no) = _
  unfold sdsort
  cases t.st[q]? with
  | none => rfl
  | some nd => cases nd <;> rfl
theorem keysLe_at {v i j q : Nat} {w : Int} {ks : List Int} {kvs : List (Key × DD)} (h0 : ρ[v]? = some (some (.fr (.ptr k)))) (h1 : ρ[i]? = some (some (.fr (.int w)))) (ho : objAt t.st k = some (cls, fs)) (hl : fs.lookup f = some (.ptr q)) (hq : t.st[q]? = some (.dK kvs)) (hk : intKs kvs = some ks)
    (hj : j < ρ.length) (hs : kvs.length ≤ sizeLine) : dKeysLe cls f v i j ρ (some t) = .ok (.lst ((ks.filter fun a => decide (a ≤ w)).map DD.int)) (some t) := by
  unfold dKeysLe
  rw [h0, h1]
  dsimp only
  rw [ho]
  dsimp only
  rw [if_pos ⟨rfl, hj⟩, hl]
  dsimp only
  rw [hq]
  dsimp only
  rw [hk]
  dsimp only
  rw [if_pos hs]
def eMaxD (r : R (List DD)) : R DD := r.bind fun xs τ1 => match xs with
  | [.lst ds] => R.of τ1 (gMaxD ds)
  | _ => .no
@[simp] theorem ev_MaxD {a : DA} : dMaxD a ρ τ = eMaxD (a ρ τ) := id rfl
@[simp] theorem eMaxD_ok {ds : List DD} : eMaxD (.ok [.lst ds] τ) = R.of τ (gMaxD ds) := id rfl
def maxV : List Int → DD
  | [] => .non
  | n :: ns => .int (maxL n ns)
theorem gMaxD_ok (ns : List Int) : gMaxD (ns.map .int) = some (maxV ns) := by
  unfold gMaxD
  simp only [ints?_map]
  cases ns <;> rfl
def eSMK3 (r : R (List PV)) (k n m : Nat) (F : Fn) (g : List PV → List PV → List PV) (q : Nat) (as : List PV) : R DD := r.bind fun bs τ3 => (if as.length = n ∧ bs.length = m ∧ (g (.fr (.ptr q) :: as) bs).length = k then F (g (.fr (.ptr q) :: as) bs) τ3 else .no).nox
def eSMK2 (r : R (List PV)) (k n m : Nat) (F : Fn) (g : List PV → List PV → List PV) (q : Nat) (s : DPs) (ρ : PEnv) : R DD := r.bind fun as τ2 => eSMK3 (s ρ τ2) k n m F g q as
def eSMK1 (x : R DD) (k n m : Nat) (cls mm : PySem.Str) (F : Fn) (g : List PV → List PV → List PV) (r s : DPs) (ρ : PEnv) : R DD := x.bind fun x τ1 => match x, τ1 with
  | .ptr q, some t => match objAt t.st q with
    | some (C, fs) => if C = cls ∧ fs.lookup mm = none then eSMK2 (r ρ τ1) k n m F g q s ρ else .no
    | none => .no
  | _, _ => .no
@[simp] theorem ev_SMeKN : dSMeKN k n m cls mm F g a r s ρ τ = eSMK1 (a ρ τ) k n m cls mm F g r s ρ := by
  unfold dSMeKN eSMK1
  congr 1
@[simp] theorem eSMK1_at {q : Nat} (h : objAt t.st q = some (cls, fs)) : eSMK1 (.ok (.ptr q) (some t)) k n m cls mm F g r s ρ = if fs.lookup mm = none then eSMK2 (r ρ (some t)) k n m F g q s ρ else .no := by
  show (match objAt t.st q with | some (C, fs) => _ | none => _) = _
  rw [h]
  simp only [true_and]
@[simp] theorem eSMK2_ok {q : Nat} : eSMK2 (.ok as τ) k n m F g q s ρ = eSMK3 (s ρ τ) k n m F g q as := id rfl
@[simp] theorem eSMK3_ok {q : Nat} : eSMK3 (.ok bs τ) k n m F g q as = (if as.length = n ∧ bs.length = m ∧ (g (.fr (.ptr q) :: as) bs).length = k then F (g (.fr (.ptr q) :: as) bs) τ else .no).nox := id rfl
theorem Tn.put {N : Nat} (h : Tn N t) : Tn N (putSt t k nd) := ⟨h.a0, h.a1, h.l0⟩
end
section
variable {κ α β : Type} [DecidableEq κ] [DecidableEq β]
def al (xs : List (κ × α)) (k : κ) : Option α := (xs.find? fun p => decide (p.1 = k)).map (·.2)
def aput (xs : List (κ × α)) (k : κ) (v : α) : List (κ × α) := if (xs.any fun p => decide (p.1 = k)) = true then xs.map (fun p => if p.1 = k then (p.1, v) else p) else xs ++ [(k, v)]
def ad (kf : κ → β) (vf : α → DD) (xs : List (κ × α)) : List (β × DD) := xs.map fun p => (kf p.1, vf p.2)
theorem ad_len {kf : κ → β} {vf : α → DD} (xs : List (κ × α)) : (ad kf vf xs).length = xs.length := List.length_map _
variable {kf : κ → β} {vf : α → DD}
theorem al_cons {p : κ × α} {xs : List (κ × α)} {k : κ} : al (p :: xs) k = if p.1 = k then some p.2 else al xs k := by
  unfold al
  by_cases e : p.1 = k
  · rw [List.find?_cons_of_pos (by simpa using e), if_pos e]; rfl
  · rw [List.find?_cons_of_neg (by simpa using e), if_neg e]
theorem find_ad (hi : ∀ a b, kf a = kf b → a = b) (k : κ) : ∀ xs : List (κ × α), ((ad kf vf xs).find? fun kv => decide (kv.1 = kf k)).map (·.2) = (al xs k).map vf
  | [] => rfl
  | p :: xs => by
    have ih := find_ad hi k xs
    rw [al_cons]
    show (((kf p.1, vf p.2) :: ad kf vf xs).find? _).map _ = _
    by_cases e : p.1 = k
    · rw [List.find?_cons_of_pos (by simpa using congrArg kf e), if_pos e]; rfl
    · rw [List.find?_cons_of_neg (by simpa using fun z => e (hi _ _ z)), if_neg e]; exact ih
theorem any_ad (hi : ∀ a b, kf a = kf b → a = b) (k : κ) (xs : List (κ × α)) : ((ad kf vf xs).any fun kv => decide (kv.1 = kf k)) = xs.any fun p => decide (p.1 = k) := by
  unfold ad
  rw [List.any_map]
  congr 1
  funext p
  show decide (kf p.1 = kf k) = decide (p.1 = k)
  by_cases e : p.1 = k
  · rw [decide_eq_true e, decide_eq_true (congrArg kf e)]
  · rw [decide_eq_false e, decide_eq_false fun z => e (hi _ _ z)]
theorem put_ad (hi : ∀ a b, kf a = kf b → a = b) (k : κ) (v : α) (xs : List (κ × α)) :
    (if ((ad kf vf xs).any fun kv => decide (kv.1 = kf k)) = true then (ad kf vf xs).map (fun kv => if kv.1 = kf k then (kv.1, vf v) else kv) else ad kf vf xs ++ [(kf k, vf v)]) = ad kf vf (aput xs k v) := by
  rw [any_ad hi]
  unfold aput
  split
  · unfold ad
    rw [List.map_map, List.map_map]
    refine List.map_congr_left fun p _ => ?_
    dsimp only [Function.comp]
    by_cases e : p.1 = k
    · rw [if_pos (congrArg kf e), if_pos e]
    · rw [if_neg fun z => e (hi _ _ z), if_neg e]
  · unfold ad
    rw [List.map_append]
    rfl
theorem aput_len (xs : List (κ × α)) (k : κ) (v : α) : (aput xs k v).length ≤ xs.length + 1 := by
  unfold aput
  split
  · rw [List.length_map]; omega
  · rw [List.length_append]; exact Nat.le_refl _
theorem al_aput_self (k : κ) (v : α) : ∀ xs : List (κ × α), al (aput xs k v) k = some v := by
  intro xs
  unfold aput
  split
  · rename_i h
    induction xs with
    | nil => cases h
    | cons p xs ih =>
      rw [List.map_cons, al_cons]
      by_cases e : p.1 = k
      · rw [if_pos e, if_pos e]
      · rw [if_neg e, if_neg e]
        refine ih ?_
        rw [List.any_cons, decide_eq_false e, Bool.false_or] at h
        exact h
  · rename_i h
    induction xs with
    | nil => rw [List.nil_append, al_cons, if_pos rfl]
    | cons p xs ih =>
      rw [List.any_cons, Bool.or_eq_true] at h
      have e : ¬ p.1 = k := fun z => h (.inl (decide_eq_true z))
      rw [List.cons_append, al_cons, if_neg e]
      exact ih fun z => h (.inr z)
theorem al_aput_ne {k k' : κ} {v : α} (n : k' ≠ k) : ∀ xs : List (κ × α), al (aput xs k v) k' = al xs k' := by
  intro xs
  unfold aput
  split
  · rename_i h
    clear h
    induction xs with
    | nil => rfl
    | cons p xs ih =>
      rw [List.map_cons, al_cons, al_cons, ih]
      by_cases e : p.1 = k
      · rw [if_pos e]
        show (if p.1 = k' then some v else _) = _
        rw [if_neg fun z => n (z.symm.trans e), if_neg fun z => n (z.symm.trans e)]
      · rw [if_neg e]
  · rename_i h
    clear h
    induction xs with
    | nil => rw [List.nil_append, al_cons, if_neg fun z => n z.symm]
    | cons p xs ih => rw [List.cons_append, al_cons, al_cons, ih]
theorem al_some {k : κ} {v : α} : ∀ {xs : List (κ × α)}, al xs k = some v → (k, v) ∈ xs
  | [], h => by cases h
  | p :: xs, h => by
    rw [al_cons] at h
    split at h
    · rename_i e
      cases h
      subst e
      exact List.mem_cons_self
    · exact List.mem_cons_of_mem _ (al_some h)
theorem al_none {k : κ} : ∀ {xs : List (κ × α)}, al xs k = none ↔ k ∉ xs.map (·.1)
  | [] => by simp [al]
  | p :: xs => by
    rw [al_cons, List.map_cons, List.mem_cons, not_or]
    have ih := al_none (k := k) (xs := xs)
    by_cases e : p.1 = k
    · rw [if_pos e]
      exact ⟨fun z => (nomatch z), fun z => (z.1 e.symm).elim⟩
    · rw [if_neg e]
      exact ⟨fun z => ⟨fun y => e y.symm, ih.mp z⟩, fun z => ih.mpr z.2⟩
theorem al_of_mem {k : κ} {v : α} : ∀ {xs : List (κ × α)}, (xs.map (·.1)).Nodup → (k, v) ∈ xs → al xs k = some v
  | p :: xs, nd, h => by
    rw [List.map_cons, List.nodup_cons] at nd
    rw [al_cons]
    rcases List.mem_cons.mp h with h | h
    · subst h
      rw [if_pos rfl]
    · rw [if_neg fun e => nd.1 (by rw [e]; exact List.mem_map.mpr ⟨_, h, rfl⟩)]
      exact al_of_mem nd.2 h
theorem aput_keys (xs : List (κ × α)) (k : κ) (v : α) : (aput xs k v).map (·.1) = if k ∈ xs.map (·.1) then xs.map (·.1) else xs.map (·.1) ++ [k] := by
  have hm : (xs.any fun p => decide (p.1 = k)) = true ↔ k ∈ xs.map (·.1) := by
    rw [List.any_eq_true, List.mem_map]
    exact ⟨fun ⟨p, h, e⟩ => ⟨p, h, of_decide_eq_true e⟩, fun ⟨p, h, e⟩ => ⟨p, h, decide_eq_true e⟩⟩
  unfold aput
  by_cases h : k ∈ xs.map (·.1)
  · rw [if_pos (hm.mpr h), if_pos h, List.map_map]
    refine List.map_congr_left fun p _ => ?_
    dsimp only [Function.comp]
    split <;> rfl
  · rw [if_neg fun z => h (hm.mp z), if_neg h, List.map_append]
    rfl
theorem aput_nodup {xs : List (κ × α)} {k : κ} {v : α} (h : (xs.map (·.1)).Nodup) : ((aput xs k v).map (·.1)).Nodup := by
  rw [aput_keys]
  split
  · exact h
  · rename_i n
    rw [List.nodup_append]
    exact ⟨h, by simp, fun a ha b hb z => n (by rw [← List.mem_singleton.mp hb, ← z]; exact ha)⟩
theorem aput_new {xs : List (κ × α)} {k : κ} {v : α} (h : al xs k = none) : aput xs k v = xs ++ [(k, v)] := by
  unfold aput
  rw [if_neg]
  intro z
  obtain ⟨p, hp, e⟩ := List.any_eq_true.mp z
  exact al_none.mp h (List.mem_map.mpr ⟨p, hp, of_decide_eq_true e⟩)
/-- an entry that is there, changed in its place -/
theorem al_split {k : κ} {v : α} : ∀ {xs : List (κ × α)}, al xs k = some v → ∃ l r, xs = l ++ (k, v) :: r ∧ ∀ p ∈ l, p.1 ≠ k
  | [], h => by cases h
  | p :: xs, h => by
    rw [al_cons] at h
    split at h
    · rename_i e
      cases h
      subst e
      exact ⟨[], xs, rfl, fun _ h => (nomatch h)⟩
    · rename_i e
      obtain ⟨l, r, rfl, hl⟩ := al_split h
      refine ⟨p :: l, r, rfl, fun q hq => ?_⟩
      rcases List.mem_cons.mp hq with rfl | hq
      · exact e
      · exact hl q hq
end
/-- the keys -/
theorem inl_inj : ∀ a b : Int, (Sum.inl a : Key) = Sum.inl b → a = b := fun _ _ h => Sum.inl.inj h
theorem inr_inj : ∀ a b : PySem.Str, (Sum.inr a : Key) = Sum.inr b → a = b := fun _ _ h => Sum.inr.inj h
abbrev iD {α : Type} (vf : α → DD) (xs : List (Int × α)) : List (Key × DD) := ad Sum.inl vf xs
abbrev sD {α : Type} (vf : α → DD) (xs : List (PySem.Str × α)) : List (Key × DD) := ad Sum.inr vf xs
section
variable {α : Type} {vf : α → DD}
theorem valD_i (xs : List (Int × α)) (k : Int) : valD (iD vf xs) (.inl k) = (al xs k).map vf := find_ad inl_inj k xs
theorem valD_s (xs : List (PySem.Str × α)) (k : PySem.Str) : valD (sD vf xs) (.inr k) = (al xs k).map vf := find_ad inr_inj k xs
theorem putKD_i (xs : List (Int × α)) (k : Int) (v : α) : putKD (iD vf xs) (.inl k) (vf v) = iD vf (aput xs k v) := put_ad inl_inj k v xs
theorem putKD_s (xs : List (PySem.Str × α)) (k : PySem.Str) (v : α) : putKD (sD vf xs) (.inr k) (vf v) = sD vf (aput xs k v) := put_ad inr_inj k v xs
theorem intKs_i : ∀ xs : List (Int × α), intKs (iD vf xs) = some (xs.map (·.1))
  | [] => rfl
  | p :: xs => by
    show (intKs (iD vf xs)).map _ = _
    rw [intKs_i xs]
    rfl
variable {t : Tau} {q : Nat}
theorem look_i {xs : List (Int × α)} {k : Int} (h : t.st[q]? = some (.dK (iD vf xs))) : sdlook t q (.int k) = some ((al xs k).map vf) := by
  unfold sdlook
  rw [h, ← valD_i]
  rfl
theorem look_s {xs : List (PySem.Str × α)} {k : PySem.Str} (h : t.st[q]? = some (.dK (sD vf xs))) : sdlook t q (.str k) = some ((al xs k).map vf) := by
  unfold sdlook
  rw [h, ← valD_s]
  rfl
theorem put_i {xs : List (Int × α)} {k : Int} {v : α} {d : DD} (h : t.st[q]? = some (.dK (iD vf xs))) (hd : d = vf v) (hl : xs.length < sizeLine) : sdput t q (.int k) d = some (putSt t q (.dK (iD vf (aput xs k v)))) := by
  subst hd
  unfold sdput
  rw [h]
  show (if (iD vf xs).length < sizeLine then some (Nd.dK (putKD (iD vf xs) (.inl k) (vf v))) else none).map _ = _
  rw [if_pos (by rw [ad_len]; exact hl), ← putKD_i]
  rfl
theorem put_s {xs : List (PySem.Str × α)} {k : PySem.Str} {v : α} {d : DD} (h : t.st[q]? = some (.dK (sD vf xs))) (hd : d = vf v) (hl : xs.length < sizeLine) : sdput t q (.str k) d = some (putSt t q (.dK (sD vf (aput xs k v)))) := by
  subst hd
  unfold sdput
  rw [h]
  show (if (sD vf xs).length < sizeLine then some (Nd.dK (putKD (sD vf xs) (.inr k) (vf v))) else none).map _ = _
  rw [if_pos (by rw [ad_len]; exact hl), ← putKD_s]
  rfl
theorem isDct_K {kvs : List (Key × DD)} (h : t.st[q]? = some (.dK kvs)) : isDct t q = true := by
  unfold isDct
  rw [h]
theorem isDct_T {kvs : List (List Key × DD)} (h : t.st[q]? = some (.dT kvs)) : isDct t q = true := by
  unfold isDct
  rw [h]
theorem setd_s_in {xs : List (PySem.Str × α)} {k : PySem.Str} {v : α} {z : DD} (h : t.st[q]? = some (.dK (sD vf xs))) (hv : al xs k = some v) (hl : xs.length < sizeLine) : sdset t q (.str k) z = .ok (vf v) (some t) := by
  unfold sdset
  rw [h]
  dsimp only [keyD]
  rw [if_pos (by rw [ad_len]; exact hl), valD_s, hv]
  rfl
theorem setd_s_new {xs : List (PySem.Str × α)} {k : PySem.Str} {v : α} {z : DD} (h : t.st[q]? = some (.dK (sD vf xs))) (hv : al xs k = none) (hz : z = vf v) (hl : xs.length < sizeLine) : sdset t q (.str k) z = .ok z (some (putSt t q (.dK (sD vf (xs ++ [(k, v)]))))) := by
  subst hz
  unfold sdset
  rw [h]
  dsimp only [keyD]
  rw [if_pos (by rw [ad_len]; exact hl), valD_s, hv, putKD_s, aput_new hv]
  rfl
theorem sort_i {xs : List (Int × α)} (h : t.st[q]? = some (.dK (iD vf xs))) (hl : xs.length < 64) : sdsort t q = some (.lst ((sortI (xs.map (·.1))).map DD.int)) := by
  unfold sdsort
  rw [h]
  dsimp only
  unfold gSortDK
  rw [intKs_i]
  dsimp only
  rw [if_pos (by rw [List.length_map]; exact hl)]
end
section
variable {κ α : Type} [DecidableEq κ] {kf : κ → List Key} {kd : κ → DD} {vf : α → DD} {t : Tau} {q : Nat}
/-- how a key is told -/
def KeyT (kf : κ → List Key) (kd : κ → DD) : Prop := (∀ a b, kf a = kf b → a = b) ∧ ∀ a, ∃ ds, kd a = .tup ds ∧ keysDt ds = some (kf a)
theorem look_t {xs : List (κ × α)} {k : κ} (hk : KeyT kf kd) (h : t.st[q]? = some (.dT (ad kf vf xs))) : sdlook t q (kd k) = some ((al xs k).map vf) := by
  obtain ⟨ds, e1, e2⟩ := hk.2 k
  unfold sdlook
  rw [h, e1]
  show (keysDt ds).map (valT (ad kf vf xs)) = _
  rw [e2]
  show some (valT (ad kf vf xs) (kf k)) = _
  rw [show valT (ad kf vf xs) (kf k) = (al xs k).map vf from find_ad hk.1 k xs]
theorem put_t {xs : List (κ × α)} {k : κ} {v : α} {d : DD} (hk : KeyT kf kd) (h : t.st[q]? = some (.dT (ad kf vf xs))) (hd : d = vf v) (hl : xs.length < sizeLine) : sdput t q (kd k) d = some (putSt t q (.dT (ad kf vf (aput xs k v)))) := by
  subst hd
  obtain ⟨ds, e1, e2⟩ := hk.2 k
  unfold sdput
  rw [h, e1]
  show (if (ad kf vf xs).length < sizeLine then (keysDt ds).map fun k => Nd.dT (putT (ad kf vf xs) k (vf v)) else none).map _ = _
  rw [if_pos (by rw [ad_len]; exact hl), e2]
  show some (putSt t q (.dT (putT (ad kf vf xs) (kf k) (vf v)))) = _
  rw [show putT (ad kf vf xs) (kf k) (vf v) = ad kf vf (aput xs k v) from put_ad hk.1 k v xs]
end
structure Hl (st : List Nd) (h : List (Nat × Nd)) : Prop where
  n : (h.map (·.1)).Nodup
  g : ∀ p ∈ h, st[p.1]? = some p.2
section
variable {st : List Nd} {X Y h : List (Nat × Nd)} {k : Nat} {nd nd' : Nd}
theorem Hl.lt (H : Hl st h) {p : Nat × Nd} (hp : p ∈ h) : p.1 < st.length := (List.getElem?_eq_some_iff.mp (H.g p hp)).1
theorem Hl.set (H : Hl st (X ++ (k, nd) :: Y)) : Hl (st.set k nd') (X ++ (k, nd') :: Y) := by
  have hk := H.lt (p := (k, nd)) (by simp)
  have n := H.n
  refine ⟨by simpa using n, fun p hp => ?_⟩
  have other : ∀ p, p ∈ X ∨ p ∈ Y → (st.set k nd')[p.1]? = some p.2 := fun p hp => by
    have ne : k ≠ p.1 := by
      rw [List.map_append, List.map_cons, List.nodup_append] at n
      rcases hp with hp | hp
      · exact fun e => n.2.2 p.1 (List.mem_map.mpr ⟨p, hp, rfl⟩) k List.mem_cons_self e.symm
      · exact fun e => (List.nodup_cons.mp n.2.1).1 (by show k ∈ _; rw [e]; exact List.mem_map.mpr ⟨p, hp, rfl⟩)
    rw [List.getElem?_set_ne ne]
    exact H.g p (by rw [List.mem_append, List.mem_cons]; exact hp.elim .inl fun z => .inr (.inr z))
  rcases List.mem_append.mp hp with hp | hp
  · exact other p (.inl hp)
  · rcases List.mem_cons.mp hp with rfl | hp
    · exact List.getElem?_set_self hk
    · exact other p (.inr hp)
theorem Hl.grow (H : Hl st h) (l : List Nd) : Hl (st ++ l) h := ⟨H.n, fun p hp => by rw [List.getElem?_append_left (H.lt hp)]; exact H.g p hp⟩
theorem Hl.new (H : Hl st (X ++ Y)) : Hl (st ++ [nd]) (X ++ (st.length, nd) :: Y) := by
  have lt : ∀ p, p ∈ X ∨ p ∈ Y → p.1 < st.length := fun p hp => H.lt (List.mem_append.mpr hp)
  have n := H.n
  rw [List.map_append, List.nodup_append] at n
  refine ⟨?_, fun p hp => ?_⟩
  · rw [List.map_append, List.map_cons, List.nodup_append, List.nodup_cons]
    refine ⟨n.1, ⟨fun z => ?_, n.2.1⟩, fun a ha b hb e => ?_⟩
    · obtain ⟨p, hp, e⟩ := List.mem_map.mp z
      have := lt p (.inr hp)
      dsimp only at e
      omega
    · rcases List.mem_cons.mp hb with hb | hb
      · obtain ⟨p, hp, e2⟩ := List.mem_map.mp ha
        have := lt p (.inl hp)
        dsimp only at hb e2
        omega
      · exact n.2.2 a ha b hb e
  · rcases List.mem_append.mp hp with hp | hp
    · exact (H.grow [nd]).g p (List.mem_append_left _ hp)
    · rcases List.mem_cons.mp hp with rfl | hp
      · simp
      · exact (H.grow [nd]).g p (List.mem_append_right _ hp)
theorem Hl.perm {h' : List (Nat × Nd)} (H : Hl st h) (p : h'.Perm h) : Hl st h' := ⟨(p.map _).nodup_iff.mpr H.n, fun q hq => H.g q (p.mem_iff.mp hq)⟩
theorem Hl.nil : Hl st [] := ⟨List.nodup_nil, fun _ h => (nomatch h)⟩
end
end Np
set_option Elab.async false
set_option linter.all false
set_option maxRecDepth 100000
set_option maxHeartbeats 4000000
namespace Nk64
open PySem L2 Np
noncomputable section
def b_AccountD_initD_2 : DS :=
    (dSFSet "Account" "paid" (dV 0) (dC (.int 0)))
def b_AccountD_initD_1 : DS :=
    (dSeq (dSFSet "Account" "came" (dV 0) dNewK)
    b_AccountD_initD_2)
def b_AccountD_initD : DS :=
    (dSeq (dSFSet "Account" "sent" (dV 0) dNewK)
    b_AccountD_initD_1)
def d_AccountD_initD : Fn := bodyF 1 b_AccountD_initD
def b_Account_out_of : DS :=
    (dRet (dOp Np.gSub (dSDGet2 (dSFld "Account" "sent" (dV 0)) (dV 1) (dC (.int 0))) (dSDGet2 (dSFld "Account" "came" (dV 0)) (dV 1) (dC (.int 0)))))
def d_Account_out_of : Fn := bodyF 2 b_Account_out_of
def b_Account_nights_told : DS :=
    (dRet (dLc (dIList (dSortDK (dCons (dSFld "Account" "sent" (dV 0)) dNil))) (.nm 1) dYes (dTup (dCons (dV 1) (dCons (dSDGet (dSFld "Account" "sent" (dV 0)) (dV 1)) (dCons (dSDGet2 (dSFld "Account" "came" (dV 0)) (dV 1) (dC (.int 0))) dNil)))) [1]))
def d_Account_nights_told : Fn := bodyF 2 b_Account_nights_told
def b_LedgerD_initD_4 : DS :=
    (dSFSet "Ledger" "accounts" (dV 0) dNewK)
def b_LedgerD_initD_3 : DS :=
    (dSeq (dSFSet "Ledger" "told_prices" (dV 0) dNewK)
    b_LedgerD_initD_4)
def b_LedgerD_initD_2 : DS :=
    (dSeq (dSFSet "Ledger" "within" (dV 0) (dV 3))
    b_LedgerD_initD_3)
def b_LedgerD_initD_1 : DS :=
    (dSeq (dSFSet "Ledger" "free" (dV 0) (dV 2))
    b_LedgerD_initD_2)
def b_LedgerD_initD : DS :=
    (dSeq (dSFSet "Ledger" "price" (dV 0) (dV 1))
    b_LedgerD_initD_1)
def d_LedgerD_initD : Fn := bodyF 4 b_LedgerD_initD
def b_Ledger_account_of_1 : DS :=
    (dRet (dV 2))
def b_Ledger_account_of : DS :=
    (dSeq (dTryH tb0 3
    (dSet 2 (dSDGet (dSFld "Ledger" "accounts" (dV 0)) (dV 1)))
    dNever)
    b_Ledger_account_of_1)
def d_Ledger_account_of : Fn := bodyN 4 b_Ledger_account_of
def b_Ledger_price_at_1 : DS :=
    (dRet (dIf (dTest (dOp (gIsN false) (dV 2) (dC .non))) (dSFld "Ledger" "price" (dV 0)) (dSDGet (dSFld "Ledger" "told_prices" (dV 0)) (dV 2))))
def b_Ledger_price_at : DS :=
    (dSeq (dSet 2 (dMaxD (dCons (dKeysLe "Ledger" "told_prices" 0 1 3) dNil)))
    b_Ledger_price_at_1)
def d_Ledger_price_at : Fn := bodyF 4 b_Ledger_price_at
def b_Ledger_cost_of : DS :=
    (dRet (dOp gMul (dOp Np.gSub (dV 2) (dOp gFdivN (dV 2) (dSFld "Ledger" "free" (dV 0)))) (dSMeN 2 "Ledger" "price_at" d_Ledger_price_at (dV 0) (dpCons (dpE (dV 1)) dpNil))))
def d_Ledger_cost_of : Fn := bodyF 3 b_Ledger_cost_of
def b_Ledger_send_1 : DS :=
    (dDPut (dSFld "Account" "sent" (dV 4)) (dV 2) (dOp gAdd (dSDGet2 (dSFld "Account" "sent" (dV 4)) (dV 2) (dC (.int 0))) (dV 3)))
def b_Ledger_send : DS :=
    (dSeq (dSet 4 (dSetd (dSFld "Ledger" "accounts" (dV 0)) (dV 1) (dMkSN 1 0 0 "Account" d_AccountD_initD (pickL [] []) dpNil dpNil)))
    b_Ledger_send_1)
def d_Ledger_send : Fn := bodyF 5 b_Ledger_send
def b_Ledger_back_3 : DS :=
    (dDPut (dSFld "Account" "came" (dV 5)) (dV 2) (dOp gAdd (dSDGet2 (dSFld "Account" "came" (dV 5)) (dV 2) (dC (.int 0))) (dV 4)))
def b_Ledger_back_2 : DS :=
    (dSeq (dIfS (dTest (dOp gGt (dV 4) (dSMeN 2 "Account" "out_of" d_Account_out_of (dV 5) (dpCons (dpE (dV 2)) dpNil))))
    dNever
    dNx)
    b_Ledger_back_3)
def b_Ledger_back_1 : DS :=
    (dSeq (dIfS (dTest (dOp gGt (dV 3) (dOp gAdd (dV 2) (dSFld "Ledger" "within" (dV 0)))))
    dNever
    dNx)
    b_Ledger_back_2)
def b_Ledger_back : DS :=
    (dSeq (dSet 5 (dSMeN 2 "Ledger" "account_of" d_Ledger_account_of (dV 0) (dpCons (dpE (dV 1)) dpNil)))
    b_Ledger_back_1)
def d_Ledger_back : Fn := bodyF 6 b_Ledger_back
def b_Ledger_pay_1 : DS :=
    (dSFAug "Account" "paid" gAdd (dV 3) (dV 2))
def b_Ledger_pay : DS :=
    (dSeq (dSet 3 (dSMeN 2 "Ledger" "account_of" d_Ledger_account_of (dV 0) (dpCons (dpE (dV 1)) dpNil)))
    b_Ledger_pay_1)
def d_Ledger_pay : Fn := bodyF 4 b_Ledger_pay
def b_Ledger_price_from : DS :=
    (dDPut (dSFld "Ledger" "told_prices" (dV 0)) (dV 1) (dV 2))
def d_Ledger_price_from : Fn := bodyF 3 b_Ledger_price_from
def b_Ledger_account_L1 : DS :=
    (dApp 2 (dTup (dCons (dV 3) (dCons (dV 4) (dCons (dV 5) (dCons (dSMeN 3 "Ledger" "cost_of" d_Ledger_cost_of (dV 0) (dpCons (dpE (dV 3)) (dpCons (dpE (dOp Np.gSub (dV 4) (dV 5))) dpNil))) dNil))))))
def b_Ledger_account_2 : DS :=
    (dFrz 2 (dRet (dV 2)))
def b_Ledger_account_1 : DS :=
    (dSeq (dFor (dIList (dSMeN 1 "Account" "nights_told" d_Account_nights_told (dSMeN 2 "Ledger" "account_of" d_Ledger_account_of (dV 0) (dpCons (dpE (dV 1)) dpNil)) dpNil)) (.tp [(.nm 3), (.nm 4), (.nm 5)])
    b_Ledger_account_L1)
    b_Ledger_account_2)
def b_Ledger_account : DS :=
    (dSeq (dSetO 2 (dLstF dNil))
    b_Ledger_account_1)
def d_Ledger_account : Fn := bodyF 6 b_Ledger_account
def b_Ledger_owes : DS :=
    (dRet (dSumS (dCons (dLc (dIList (dSMeN 2 "Ledger" "account" d_Ledger_account (dV 0) (dpCons (dpE (dV 1)) dpNil))) (.nm 2) dYes (dOp gIxT (dV 2) (dC (.int 3))) [2]) dNil) (dCons (dOp Np.gSub (dC (.int 0)) (dSFld "Account" "paid" (dSMeN 2 "Ledger" "account_of" d_Ledger_account_of (dV 0) (dpCons (dpE (dV 1)) dpNil)))) dNil)))
def d_Ledger_owes : Fn := bodyF 3 b_Ledger_owes
def b__law_take_9 (F : Fn) : DS :=
    (dRet (dOp gMod (dOp gFdiv (dV 5) (dC (.int 97))) (dV 1)))
def b__law_take_8 (F : Fn) : DS :=
    (dSeq (dIfS (dTest (dOp gGt (dV 1) (dOp gPow (dC (.int 10)) (dC (.int 6)))))
    (dRet (dOp gMod (dOp gAdd (dOp gMod (dOp gFdiv (dV 5) (dC (.int 97))) (dOp gPow (dC (.int 10)) (dC (.int 6)))) (dOp gMul (dOp gPow (dC (.int 10)) (dC (.int 6))) (dCallN 2 F [] (dpCons (dpT 0) (dpCons (dpE (dOp gAdd (dOp gFdivN (dV 1) (dOp gPow (dC (.int 10)) (dC (.int 6)))) (dC (.int 1)))) dpNil))))) (dV 1)))
    dNx)
    (b__law_take_9 F))
def b__law_take_7 (F : Fn) : DS :=
    (dSeq (dSet 5 (dOp gMod (dOp gAdd (dOp gAdd (dOp gMul (dV 5) (dV 5)) (dOp gMul (dC (.int 48271)) (dV 5))) (dC (.int 31))) (dC (.int 2147483647))))
    (b__law_take_8 F))
def b__law_take_6 (F : Fn) : DS :=
    (dSeq (dSet 5 (dOp gMod (dOp gAdd (dOp gAdd (dOp gAdd (dOp gMul (dOp gMod (dV 4) (dC (.int 2147483587))) (dC (.int 40692))) (dOp gMul (dOp gMul (dC (.int 7907)) (dV 3)) (dV 3))) (dOp gMul (dC (.int 104729)) (dV 3))) (dC (.int 17))) (dC (.int 2147483629))))
    (b__law_take_7 F))
def b__law_take_5 (F : Fn) : DS :=
    (dSeq (dIfS (dAnd (dTest (dOp gLt (dV 3) (dCall (c1 gLenL) (dCons (dTd 0 .cells) dNil)))) (dTest (dOp gGe (dV 4) (dOp gPow (dC (.int 10)) (dC (.int 18))))))
    (dSeq (dTdPut 0 .left (dOp gFdivN (dOp Np.gSub (dV 4) (dOp gPow (dC (.int 10)) (dC (.int 18)))) (dV 1)))
    (dRet (dOp gMod (dOp Np.gSub (dV 4) (dOp gPow (dC (.int 10)) (dC (.int 18)))) (dV 1))))
    dNx)
    (b__law_take_6 F))
def b__law_take_4 (F : Fn) : DS :=
    (dSeq (dIfS (dTest (dOp gNeD (dTd 0 .cells) (dLst dNil)))
    (dSet 4 (dOp gIxL (dTd 0 .cells) (dOp gMod (dV 3) (dCall (c1 gLenL) (dCons (dTd 0 .cells) dNil)))))
    dNx)
    (b__law_take_5 F))
def b__law_take_3 (F : Fn) : DS :=
    (dSeq (dSet 4 (dC (.int 5)))
    (b__law_take_4 F))
def b__law_take_2 (F : Fn) : DS :=
    (dSeq (dTdPut 0 .at' (dOp gAdd (dV 3) (dC (.int 1))))
    (b__law_take_3 F))
def b__law_take_1 (F : Fn) : DS :=
    (dSeq (dSet 3 (dTd 0 .at'))
    (b__law_take_2 F))
def b__law_take (F : Fn) : DS :=
    (dSeq (dIfS (dTest (dOp gGt (dTd 0 .left) (dC (.int 0))))
    (dSeq (dSet 2 (dOp gMod (dTd 0 .left) (dV 1)))
    (dSeq (dTdPut 0 .left (dOp gFdivN (dTd 0 .left) (dV 1)))
    (dRet (dV 2))))
    dNx)
    (b__law_take_1 F))
def d__law_take_r : Nat → Fn
  | 0 => fun _ _ => .no
  | n + 1 => bodyF 6 (b__law_take (d__law_take_r n))
def d__law_take : Fn := d__law_take_r 2
def b__law_names_6 : DS :=
    (dRet (dLc (dIList (dV 8)) (.nm 9) dYes (dOp gCatS (dOp gCatS (dSl gSlS (dV 3) dNoP (dPart (dV 5))) (dV 9)) (dSl gSlS (dV 3) (dPart (dOp gAdd (dV 5) (dC (.int 1)))) dNoP)) [9]))
def b__law_names_5 : DS :=
    (dSeq (dSet 8 (dLc (dIR1 (dCons (dV 1) dNil)) (.nm 4) dYes (dOp gIxS (dV 2) (dOp gMod (dOp gAdd (dV 6) (dOp gMul (dV 7) (dV 4))) (dC (.int 26)))) [4]))
    b__law_names_6)
def b__law_names_4 : DS :=
    (dSeq (dIfS (dAnd (dTest (dOp gLt (dV 1) (dC (.int 9)))) (dTest (dOp (gEq false) (dCallN 2 d__law_take [] (dpCons (dpT 0) (dpCons (dpE (dC (.int 3))) dpNil))) (dC (.int 0)))))
    (dRet (dLc (dIR1 (dCons (dV 1) dNil)) (.nm 4) dYes (dSl gSlS (dOp gMulS (dV 3) (dC (.int 8))) dNoP (dPart (dOp gAdd (dC (.int 1)) (dOp gMod (dOp gAdd (dV 6) (dOp gMul (dV 7) (dV 4))) (dC (.int 8)))))) [4]))
    dNx)
    b__law_names_5)
def b__law_names_3 : DS :=
    (dSeq (dSet 7 (dOp gIxL (dLst (dCons (dC (.int 1)) (dCons (dC (.int 3)) (dCons (dC (.int 5)) (dCons (dC (.int 7)) (dCons (dC (.int 9)) (dCons (dC (.int 11)) (dCons (dC (.int 15)) (dCons (dC (.int 17)) (dCons (dC (.int 19)) (dCons (dC (.int 21)) (dCons (dC (.int 23)) (dCons (dC (.int 25)) dNil))))))))))))) (dCallN 2 d__law_take [] (dpCons (dpT 0) (dpCons (dpE (dC (.int 12))) dpNil)))))
    b__law_names_4)
def b__law_names_2 : DS :=
    (dSeq (dAsgT (dTup (dCons (dCallN 2 d__law_take [] (dpCons (dpT 0) (dpCons (dpE (dCall (c1 gLenS) (dCons (dV 3) dNil))) dpNil))) (dCons (dCallN 2 d__law_take [] (dpCons (dpT 0) (dpCons (dpE (dC (.int 26))) dpNil))) dNil))) (.tp [(.nm 5), (.nm 6)]))
    b__law_names_3)
def b__law_names_1 : DS :=
    (dSeq (dSet 3 (dM1 gJoin (dC (.str "")) (dLc (dIR1 (dCons (dOp gAdd (dC (.int 1)) (dCallN 2 d__law_take [] (dpCons (dpT 0) (dpCons (dpE (dC (.int 8))) dpNil)))) dNil)) (.nm 4) dYes (dOp gIxS (dV 2) (dCallN 2 d__law_take [] (dpCons (dpT 0) (dpCons (dpE (dC (.int 26))) dpNil)))) [4])))
    b__law_names_2)
def b__law_names : DS :=
    (dSeq (dSet 2 (dC (.str "abcdefghijklmnopqrstuvwxyz")))
    b__law_names_1)
def d__law_names : Fn := bodyF 10 b__law_names
def b__law_price_L1 : DS :=
    (dIfS (dTest (dOp gLe (dV 3) (dV 1)))
    (dSet 2 (dSDGet (dDGet (dV 0) (dC (.str "prices"))) (dV 3)))
    dNx)
def b__law_price_2 : DS :=
    (dRet (dV 2))
def b__law_price_1 : DS :=
    (dSeq (dFor (dIList (dSortDK (dCons (dDGet (dV 0) (dC (.str "prices"))) dNil))) (.nm 3)
    b__law_price_L1)
    b__law_price_2)
def b__law_price : DS :=
    (dSeq (dSet 2 (dDGet (dV 0) (dC (.str "price"))))
    b__law_price_1)
def d__law_price : Fn := bodyF 4 b__law_price
def b__law_account_L1_2 : DS :=
    (dApp 2 (dTup (dCons (dV 3) (dCons (dV 4) (dCons (dV 5) (dCons (dOp gMul (dOp Np.gSub (dV 6) (dOp gFdivN (dV 6) (dDGet (dV 0) (dC (.str "free"))))) (dCallN 2 d__law_price [] (dpCons (dpE (dV 0)) (dpCons (dpE (dV 3)) dpNil)))) dNil))))))
def b__law_account_L1_1 : DS :=
    (dSeq (dSet 6 (dOp Np.gSub (dV 4) (dV 5)))
    b__law_account_L1_2)
def b__law_account_L1 : DS :=
    (dSeq (dPar 4 5 (dCons (dSDGet (dSDGet (dDGet (dV 0) (dC (.str "sent"))) (dV 1)) (dV 3)) (dCons (dSDGet2 (dDGet (dV 0) (dC (.str "came"))) (dTup (dCons (dV 1) (dCons (dV 3) dNil))) (dC (.int 0))) dNil)))
    b__law_account_L1_1)
def b__law_account_2 : DS :=
    (dFrz 2 (dRet (dV 2)))
def b__law_account_1 : DS :=
    (dSeq (dFor (dIList (dSortDK (dCons (dSDGet (dDGet (dV 0) (dC (.str "sent"))) (dV 1)) dNil))) (.nm 3)
    b__law_account_L1)
    b__law_account_2)
def b__law_account : DS :=
    (dSeq (dSetO 2 (dLstF dNil))
    b__law_account_1)
def d__law_account : Fn := bodyF 7 b__law_account
def b__law_owes : DS :=
    (dRet (dOp Np.gSub (dCall (c1 gSum) (dCons (dLc (dIList (dCallN 2 d__law_account [] (dpCons (dpE (dV 0)) (dpCons (dpE (dV 1)) dpNil)))) (.nm 2) dYes (dOp gIxT (dV 2) (dC (.int 3))) [2]) dNil)) (dSDGet2 (dDGet (dV 0) (dC (.str "paid"))) (dV 1) (dC (.int 0)))))
def d__law_owes : Fn := bodyF 3 b__law_owes
def b__law_sent_L1_1 : DS :=
    (dIfS (dTest (dOp gGt (dV 6) (dC (.int 0))))
    (dSeq (dSet 7 (dOp gIxL (dLst (dCons (dC (.int 0)) (dCons (dC (.int 0)) (dCons (dC (.int 1)) (dCons (dV 6) (dCons (dCallN 2 d__law_take [] (dpCons (dpT 0) (dpCons (dpE (dOp gAdd (dV 6) (dC (.int 1)))) dpNil))) dNil)))))) (dCallN 2 d__law_take [] (dpCons (dpT 0) (dpCons (dpE (dC (.int 5))) dpNil)))))
    (dSeq (dApp 3 (dTup (dCons (dOp gMul (dC (.int 2)) (dV 5)) (dCons (dV 6) (dCons (dV 7) dNil)))))
    (dSeq (dSet 8 (dSetd (dDGet (dV 1) (dC (.str "sent"))) (dV 2) dNewK))
    (dSeq (dDPut (dV 8) (dOp gMul (dC (.int 2)) (dV 5)) (dV 6))
    (dDPut (dDGet (dV 1) (dC (.str "came"))) (dTup (dCons (dV 2) (dCons (dOp gMul (dC (.int 2)) (dV 5)) dNil))) (dV 7))))))
    dNx)
def b__law_sent_L1 : DS :=
    (dSeq (dSet 6 (dOp gAdd (dOp gMul (dV 4) (dCallN 2 d__law_take [] (dpCons (dpT 0) (dpCons (dpE (dC (.int 6))) dpNil)))) (dOp gIxL (dLst (dCons (dC (.int 0)) (dCons (dC (.int 1)) (dCons (dOp Np.gSub (dV 4) (dC (.int 1))) dNil)))) (dCallN 2 d__law_take [] (dpCons (dpT 0) (dpCons (dpE (dC (.int 3))) dpNil))))))
    b__law_sent_L1_1)
def b__law_sent_3 : DS :=
    (dFrz 3 (dRet (dV 3)))
def b__law_sent_2 : DS :=
    (dSeq (dFor (dIR2 (dCons (dC (.int 0)) (dCons (dOp gAdd (dC (.int 1)) (dCallN 2 d__law_take [] (dpCons (dpT 0) (dpCons (dpE (dC (.int 10))) dpNil)))) dNil))) (.nm 5)
    b__law_sent_L1)
    b__law_sent_3)
def b__law_sent_1 : DS :=
    (dSeq (dSet 4 (dDGet (dV 1) (dC (.str "free"))))
    b__law_sent_2)
def b__law_sent : DS :=
    (dSeq (dSetO 3 (dLstF dNil))
    b__law_sent_1)
def d__law_sent : Fn := bodyF 9 b__law_sent
def b__law_put_L1_1 : DS :=
    (dIfS (dTest (dOp gGt (dV 5) (dC (.int 0))))
    (dDrop (dSMeN 5 "Ledger" "back" d_Ledger_back (dV 0) (dpCons (dpE (dV 1)) (dpCons (dpE (dV 3)) (dpCons (dpE (dV 3)) (dpCons (dpE (dV 5)) dpNil))))))
    dNx)
def b__law_put_L1 : DS :=
    (dSeq (dDrop (dSMeKN 4 0 3 "Ledger" "send" d_Ledger_send (pickL [] [.a 0, .z 2, .z 0, .z 1]) (dV 0) dpNil (dpCons (dpE (dV 3)) (dpCons (dpE (dV 4)) (dpCons (dpE (dV 1)) dpNil)))))
    b__law_put_L1_1)
def b__law_put : DS :=
    (dFor (dIList (dV 2)) (.tp [(.nm 3), (.nm 4), (.nm 5)])
    b__law_put_L1)
def d__law_put : Fn := bodyF 6 b__law_put
def b__law_paid : DS :=
    (dIfS (dTest (dSDIn false (dV 2) (dDGet (dV 1) (dC (.str "sent")))))
    (dSeq (dDrop (dSMeKN 3 0 2 "Ledger" "pay" d_Ledger_pay (pickL [] [.a 0, .z 1, .z 0]) (dV 0) dpNil (dpCons (dpE (dV 3)) (dpCons (dpE (dV 2)) dpNil))))
    (dDPut (dDGet (dV 1) (dC (.str "paid"))) (dV 2) (dOp gAdd (dSDGet2 (dDGet (dV 1) (dC (.str "paid"))) (dV 2) (dC (.int 0))) (dV 3))))
    dNx)
def d__law_paid : Fn := bodyF 4 b__law_paid
def b_law_L2_5 : DS :=
    (dIfS (dAnd (dTest (dOp gNeD (dV 9) (dLst dNil))) (dTest (dOp (gEq true) (dSMeN 2 "Ledger" "owes" d_Ledger_owes (dV 7) (dpCons (dpE (dV 5)) dpNil)) (dCallN 2 d__law_owes [] (dpCons (dpE (dV 6)) (dpCons (dpE (dV 5)) dpNil))))))
    (dRet (dC (.bl false)))
    dNx)
def b_law_L2_4 : DS :=
    (dSeq (dIfS (dAnd (dTest (dOp gNeD (dV 9) (dLst dNil))) (dTest (dOp (gEq true) (dCall (c1 gRepr) (dCons (dSMeN 2 "Ledger" "account" d_Ledger_account (dV 7) (dpCons (dpE (dV 5)) dpNil)) dNil)) (dCall (c1 gRepr) (dCons (dCallN 2 d__law_account [] (dpCons (dpE (dV 6)) (dpCons (dpE (dV 5)) dpNil))) dNil)))))
    (dRet (dC (.bl false)))
    dNx)
    b_law_L2_5)
def b_law_L2_3 : DS :=
    (dSeq (dDrop (dCallN 4 d__law_paid [] (dpCons (dpE (dV 7)) (dpCons (dpE (dV 6)) (dpCons (dpE (dV 5)) (dpCons (dpE (dOp Np.gSub (dCallN 2 d__law_take [] (dpCons (dpT 1) (dpCons (dpE (dC (.int 99))) dpNil))) (dC (.int 40)))) dpNil))))))
    b_law_L2_4)
def b_law_L2_2 : DS :=
    (dSeq (dDPut (dDGet (dV 6) (dC (.str "prices"))) (dV 11) (dV 12))
    b_law_L2_3)
def b_law_L2_1 : DS :=
    (dSeq (dDrop (dSMeKN 3 0 2 "Ledger" "price_from" d_Ledger_price_from (pickL [] [.a 0, .z 1, .z 0]) (dV 7) dpNil (dpCons (dpE (dV 12)) (dpCons (dpE (dV 11)) dpNil))))
    b_law_L2_2)
def b_law_L2 : DS :=
    (dSeq (dPar 11 12 (dCons (dCallN 2 d__law_take [] (dpCons (dpT 1) (dpCons (dpE (dC (.int 22))) dpNil))) (dCons (dOp gIxL (dLst (dCons (dC (.int 0)) (dCons (dCallN 2 d__law_take [] (dpCons (dpT 1) (dpCons (dpE (dC (.int 50))) dpNil))) (dCons (dCallN 2 d__law_take [] (dpCons (dpT 1) (dpCons (dpE (dOp gPow (dC (.int 10)) (dC (.int 9)))) dpNil))) dNil)))) (dCallN 2 d__law_take [] (dpCons (dpT 1) (dpCons (dpE (dC (.int 3))) dpNil)))) dNil)))
    b_law_L2_1)
def b_law_L3 : DS :=
    (dDrop (dSMeN 3 "Ledger" "price_from" d_Ledger_price_from (dV 8) (dpCons (dpE (dV 11)) (dpCons (dpE (dSDGet (dDGet (dV 6) (dC (.str "prices"))) (dV 11))) dpNil))))
def b_law_L1_8 : DS :=
    (dIfS (dAnd (dTest (dOp gNeD (dV 9) (dLst dNil))) (dTest (dOp (gEq true) (dCall (c1 gRepr) (dCons (dSMeN 2 "Ledger" "account" d_Ledger_account (dV 8) (dpCons (dpE (dV 5)) dpNil)) dNil)) (dCall (c1 gRepr) (dCons (dCallN 2 d__law_account [] (dpCons (dpE (dV 6)) (dpCons (dpE (dV 5)) dpNil))) dNil)))))
    (dRet (dC (.bl false)))
    dNx)
def b_law_L1_7 : DS :=
    (dSeq (dDrop (dCallN 3 d__law_put [] (dpCons (dpE (dV 8)) (dpCons (dpE (dV 5)) (dpCons (dpE (dUn gRevL (dV 9))) dpNil)))))
    b_law_L1_8)
def b_law_L1_6 : DS :=
    (dSeq (dFor (dIList (dUn gRevL (dSortDK (dCons (dDGet (dV 6) (dC (.str "prices"))) dNil)))) (.nm 11)
    b_law_L3)
    b_law_L1_7)
def b_law_L1_5 : DS :=
    (dSeq (dFor (dIR1 (dCons (dCallN 2 d__law_take [] (dpCons (dpT 1) (dpCons (dpE (dC (.int 9))) dpNil))) dNil)) (.nm 10)
    b_law_L2)
    b_law_L1_6)
def b_law_L1_4 : DS :=
    (dSeq (dDrop (dCallN 3 d__law_put [] (dpCons (dpE (dV 7)) (dpCons (dpE (dV 5)) (dpCons (dpE (dV 9)) dpNil)))))
    b_law_L1_5)
def b_law_L1_3 : DS :=
    (dSeq (dSet 9 (dCallN 3 d__law_sent [] (dpCons (dpT 1) (dpCons (dpE (dV 6)) (dpCons (dpE (dV 5)) dpNil)))))
    b_law_L1_4)
def b_law_L1_2 : DS :=
    (dSeq (dPar 7 8 (dCons (dMkSN 4 0 2 "Ledger" d_LedgerD_initD (pickL [.fr (.int 2), .fr (.int 13), .fr (.int 3)] [.z 0, .z 1, .c 2]) dpNil (dpCons (dpE (dV 3)) (dpCons (dpE (dV 4)) dpNil))) (dCons (dMkSN 4 2 0 "Ledger" d_LedgerD_initD (pickL [.fr (.int 2), .fr (.int 13), .fr (.int 3)] [.a 0, .a 1, .c 2]) (dpCons (dpE (dV 3)) (dpCons (dpE (dV 4)) dpNil)) dpNil) dNil)))
    b_law_L1_3)
def b_law_L1_1 : DS :=
    (dSeq (dSet 6 (dDisp [((dC (.str "price")), (dV 3)), ((dC (.str "free")), (dV 4)), ((dC (.str "prices")), dNewK), ((dC (.str "sent")), dNewK), ((dC (.str "came")), dNewT), ((dC (.str "paid")), dNewK)]))
    b_law_L1_2)
def b_law_L1 : DS :=
    (dSeq (dPar3 3 4 5 (dCons (dCallN 2 d__law_take [] (dpCons (dpT 1) (dpCons (dpE (dC (.int 50))) dpNil))) (dCons (dOp gAdd (dC (.int 2)) (dCallN 2 d__law_take [] (dpCons (dpT 1) (dpCons (dpE (dC (.int 30))) dpNil)))) (dCons (dOp gIxL (dCallN 2 d__law_names [] (dpCons (dpT 1) (dpCons (dpE (dC (.int 1))) dpNil))) (dC (.int 0))) dNil))))
    b_law_L1_1)
def b_law_2 : DS :=
    (dRet (dC (.bl true)))
def b_law_1 : DS :=
    (dSeq (dFor (dIR1 (dCons (dC (.int 4)) dNil)) (.nm 2)
    b_law_L1)
    b_law_2)
def b_law : DS :=
    (dSeq (dMkT 1 0)
    b_law_1)
end
end Nk64
set_option Elab.async false
set_option linter.all false
set_option maxRecDepth 100000
set_option maxHeartbeats 4000000
namespace Nk64
open PySem L2 Np
def top (i : Nat) : Stmt := PySem.Challenge.pw_nightpaper_k64_prices_and_free_copies.main.body.getD i (.Pass ⟨0, 0, 0, 0⟩)
abbrev s__wall : Stmt := top 0
abbrev ps__wall : List Str := ["k"]
abbrev s_money_text : Stmt := top 6
abbrev ps_money_text : List Str := ["pence"]
abbrev s_AccountD_initD : Stmt := inClass (top 8) 0
abbrev nm_AccountD_initD : List Str := ["self"]
abbrev ps_AccountD_initD : List Str := ["self"]
abbrev s_Account_out_of : Stmt := inClass (top 8) 1
abbrev nm_Account_out_of : List Str := ["self", "night"]
abbrev ps_Account_out_of : List Str := ["self", "night"]
abbrev s_Account_nights_told : Stmt := inClass (top 8) 2
abbrev nm_Account_nights_told : List Str := ["self", "night"]
abbrev ps_Account_nights_told : List Str := ["self"]
abbrev s_LedgerD_initD : Stmt := inClass (top 9) 0
abbrev nm_LedgerD_initD : List Str := ["self", "price", "free", "within"]
abbrev ps_LedgerD_initD : List Str := ["self", "price", "free", "within"]
abbrev s_Ledger_account_of : Stmt := inClass (top 9) 1
abbrev nm_Ledger_account_of : List Str := ["self", "seller", "found", "e"]
abbrev ps_Ledger_account_of : List Str := ["self", "seller"]
abbrev s_Ledger_price_at : Stmt := inClass (top 9) 2
abbrev nm_Ledger_price_at : List Str := ["self", "night", "begin", "first"]
abbrev ps_Ledger_price_at : List Str := ["self", "night"]
abbrev s_Ledger_cost_of : Stmt := inClass (top 9) 3
abbrev nm_Ledger_cost_of : List Str := ["self", "night", "copies"]
abbrev ps_Ledger_cost_of : List Str := ["self", "night", "copies"]
abbrev s_Ledger_send : Stmt := inClass (top 9) 4
abbrev nm_Ledger_send : List Str := ["self", "seller", "night", "copies", "account"]
abbrev ps_Ledger_send : List Str := ["self", "seller", "night", "copies"]
abbrev s_Ledger_back : Stmt := inClass (top 9) 5
abbrev nm_Ledger_back : List Str := ["self", "seller", "night", "told", "copies", "account"]
abbrev ps_Ledger_back : List Str := ["self", "seller", "night", "told", "copies"]
abbrev s_Ledger_pay : Stmt := inClass (top 9) 6
abbrev nm_Ledger_pay : List Str := ["self", "seller", "pence", "account"]
abbrev ps_Ledger_pay : List Str := ["self", "seller", "pence"]
abbrev s_Ledger_price_from : Stmt := inClass (top 9) 7
abbrev nm_Ledger_price_from : List Str := ["self", "night", "price"]
abbrev ps_Ledger_price_from : List Str := ["self", "night", "price"]
abbrev s_Ledger_account : Stmt := inClass (top 9) 9
abbrev nm_Ledger_account : List Str := ["self", "seller", "found", "night", "sent", "came"]
abbrev ps_Ledger_account : List Str := ["self", "seller"]
abbrev s_Ledger_owes : Stmt := inClass (top 9) 10
abbrev nm_Ledger_owes : List Str := ["self", "seller", "row"]
abbrev ps_Ledger_owes : List Str := ["self", "seller"]
abbrev s__law_held : Stmt := top 11
abbrev nm__law_held : List Str := ["_law_script"]
abbrev ps__law_held : List Str := ["_law_script"]
abbrev s__law_take : Stmt := top 12
abbrev nm__law_take : List Str := ["_law_held_here", "_law_many", "_law_found", "_law_at", "_law_cell", "_law_number"]
abbrev ps__law_take : List Str := ["_law_held_here", "_law_many"]
abbrev s__law_names : Stmt := top 13
abbrev nm__law_names : List Str := ["_law_held_here", "_law_many", "_law_letters", "_law_word", "_law_k", "_law_at", "_law_first", "_law_step", "_law_signs", "_law_sign"]
abbrev ps__law_names : List Str := ["_law_held_here", "_law_many"]
abbrev s__law_price : Stmt := top 14
abbrev nm__law_price : List Str := ["_law_book", "_law_evening", "_law_found", "_law_first"]
abbrev ps__law_price : List Str := ["_law_book", "_law_evening"]
abbrev s__law_account : Stmt := top 15
abbrev nm__law_account : List Str := ["_law_book", "_law_buyer", "_law_found", "_law_evening", "_law_sent_here", "_law_came", "_law_many"]
abbrev ps__law_account : List Str := ["_law_book", "_law_buyer"]
abbrev s__law_owes : Stmt := top 16
abbrev nm__law_owes : List Str := ["_law_book", "_law_buyer", "_law_row"]
abbrev ps__law_owes : List Str := ["_law_book", "_law_buyer"]
abbrev s__law_sent : Stmt := top 17
abbrev nm__law_sent : List Str := ["_law_held_here", "_law_book", "_law_buyer", "_law_found", "_law_gift", "_law_evening", "_law_amount", "_law_back", "_law_gone"]
abbrev ps__law_sent : List Str := ["_law_held_here", "_law_book", "_law_buyer"]
abbrev s__law_put : Stmt := top 18
abbrev nm__law_put : List Str := ["_law_ledger", "_law_buyer", "_law_sent_here", "_law_evening", "_law_amount", "_law_back"]
abbrev ps__law_put : List Str := ["_law_ledger", "_law_buyer", "_law_sent_here"]
abbrev s__law_paid : Stmt := top 19
abbrev nm__law_paid : List Str := ["_law_ledger", "_law_book", "_law_buyer", "_law_coins"]
abbrev ps__law_paid : List Str := ["_law_ledger", "_law_book", "_law_buyer", "_law_coins"]
abbrev s_law : Stmt := top 20
abbrev nm_law : List Str := ["_law_script", "_law_held_here", "_law_bout", "_law_cost", "_law_gift", "_law_buyer", "_law_book", "_law_ledger", "_law_twin", "_law_sent_here", "_law_turn", "_law_evening", "_law_told"]
abbrev ps_law : List Str := ["_law_script"]
theorem sc_AccountD_initD : FnScope nm_AccountD_initD ps_AccountD_initD (defScope s_AccountD_initD) := ⟨rfl, rfl, rfl, by decide +kernel, rfl, by decide +kernel, by decide +kernel⟩
theorem sc_Account_out_of : FnScope nm_Account_out_of ps_Account_out_of (defScope s_Account_out_of) := ⟨rfl, rfl, rfl, by decide +kernel, rfl, by decide +kernel, by decide +kernel⟩
theorem sc_Account_nights_told : FnScope nm_Account_nights_told ps_Account_nights_told (defScope s_Account_nights_told) := ⟨rfl, rfl, rfl, by decide +kernel, rfl, by decide +kernel, by decide +kernel⟩
theorem sc_LedgerD_initD : FnScope nm_LedgerD_initD ps_LedgerD_initD (defScope s_LedgerD_initD) := ⟨rfl, rfl, rfl, by decide +kernel, rfl, by decide +kernel, by decide +kernel⟩
theorem sc_Ledger_account_of : FnScope nm_Ledger_account_of ps_Ledger_account_of (defScope s_Ledger_account_of) := ⟨rfl, rfl, rfl, by decide +kernel, rfl, by decide +kernel, by decide +kernel⟩
theorem sc_Ledger_price_at : FnScope nm_Ledger_price_at ps_Ledger_price_at (defScope s_Ledger_price_at) := ⟨rfl, rfl, rfl, by decide +kernel, rfl, by decide +kernel, by decide +kernel⟩
theorem sc_Ledger_cost_of : FnScope nm_Ledger_cost_of ps_Ledger_cost_of (defScope s_Ledger_cost_of) := ⟨rfl, rfl, rfl, by decide +kernel, rfl, by decide +kernel, by decide +kernel⟩
theorem sc_Ledger_send : FnScope nm_Ledger_send ps_Ledger_send (defScope s_Ledger_send) := ⟨rfl, rfl, rfl, by decide +kernel, rfl, by decide +kernel, by decide +kernel⟩
theorem sc_Ledger_back : FnScope nm_Ledger_back ps_Ledger_back (defScope s_Ledger_back) := ⟨rfl, rfl, rfl, by decide +kernel, rfl, by decide +kernel, by decide +kernel⟩
theorem sc_Ledger_pay : FnScope nm_Ledger_pay ps_Ledger_pay (defScope s_Ledger_pay) := ⟨rfl, rfl, rfl, by decide +kernel, rfl, by decide +kernel, by decide +kernel⟩
theorem sc_Ledger_price_from : FnScope nm_Ledger_price_from ps_Ledger_price_from (defScope s_Ledger_price_from) := ⟨rfl, rfl, rfl, by decide +kernel, rfl, by decide +kernel, by decide +kernel⟩
theorem sc_Ledger_account : FnScope nm_Ledger_account ps_Ledger_account (defScope s_Ledger_account) := ⟨rfl, rfl, rfl, by decide +kernel, rfl, by decide +kernel, by decide +kernel⟩
theorem sc_Ledger_owes : FnScope nm_Ledger_owes ps_Ledger_owes (defScope s_Ledger_owes) := ⟨rfl, rfl, rfl, by decide +kernel, rfl, by decide +kernel, by decide +kernel⟩
theorem sc__law_held : FnScope nm__law_held ps__law_held (defScope s__law_held) := ⟨rfl, rfl, rfl, by decide +kernel, rfl, by decide +kernel, by decide +kernel⟩
theorem sc__law_take : FnScope nm__law_take ps__law_take (defScope s__law_take) := ⟨rfl, rfl, rfl, by decide +kernel, rfl, by decide +kernel, by decide +kernel⟩
theorem sc__law_names : FnScope nm__law_names ps__law_names (defScope s__law_names) := ⟨rfl, rfl, rfl, by decide +kernel, rfl, by decide +kernel, by decide +kernel⟩
theorem sc__law_price : FnScope nm__law_price ps__law_price (defScope s__law_price) := ⟨rfl, rfl, rfl, by decide +kernel, rfl, by decide +kernel, by decide +kernel⟩
theorem sc__law_account : FnScope nm__law_account ps__law_account (defScope s__law_account) := ⟨rfl, rfl, rfl, by decide +kernel, rfl, by decide +kernel, by decide +kernel⟩
theorem sc__law_owes : FnScope nm__law_owes ps__law_owes (defScope s__law_owes) := ⟨rfl, rfl, rfl, by decide +kernel, rfl, by decide +kernel, by decide +kernel⟩
theorem sc__law_sent : FnScope nm__law_sent ps__law_sent (defScope s__law_sent) := ⟨rfl, rfl, rfl, by decide +kernel, rfl, by decide +kernel, by decide +kernel⟩
theorem sc__law_put : FnScope nm__law_put ps__law_put (defScope s__law_put) := ⟨rfl, rfl, rfl, by decide +kernel, rfl, by decide +kernel, by decide +kernel⟩
theorem sc__law_paid : FnScope nm__law_paid ps__law_paid (defScope s__law_paid) := ⟨rfl, rfl, rfl, by decide +kernel, rfl, by decide +kernel, by decide +kernel⟩
theorem sc_law : FnScope nm_law ps_law (defScope s_law) := ⟨rfl, rfl, rfl, by decide +kernel, rfl, by decide +kernel, by decide +kernel⟩
structure Ad where
  Unknown : Addr
  TooMany : Addr
  TooLate : Addr
  Account : Addr
  Ledger : Addr
  cm : CM
structure Txt (K : PySem.W.Frag) (mg : Str → Option Value) (c : Ad) : Prop where
  b_KeyError : mg "KeyError" = none
  b_OverflowError : mg "OverflowError" = none
  b_RuntimeError : mg "RuntimeError" = none
  b_abs : mg "abs" = none
  b_divmod : mg "divmod" = none
  b_isinstance : mg "isinstance" = none
  b_len : mg "len" = none
  b_list : mg "list" = none
  b_max : mg "max" = none
  b_range : mg "range" = none
  b_repr : mg "repr" = none
  b_sorted : mg "sorted" = none
  b_str : mg "str" = none
  b_sum : mg "sum" = none
  g_Unknown : mg "Unknown" = some (.ref c.Unknown)
  g_TooMany : mg "TooMany" = some (.ref c.TooMany)
  g_TooLate : mg "TooLate" = some (.ref c.TooLate)
  g_Account : mg "Account" = some (.ref c.Account)
  g_Ledger : mg "Ledger" = some (.ref c.Ledger)
  cm_Account : c.cm "Account" = c.Account
  cls_Account : Cls K c.Account
  no_Account_sent : NoAttr K c.Account "sent"
  no_Account_came : NoAttr K c.Account "came"
  no_Account_paid : NoAttr K c.Account "paid"
  cm_Ledger : c.cm "Ledger" = c.Ledger
  cls_Ledger : Cls K c.Ledger
  no_Ledger_price : NoAttr K c.Ledger "price"
  no_Ledger_free : NoAttr K c.Ledger "free"
  no_Ledger_within : NoAttr K c.Ledger "within"
  no_Ledger_told_prices : NoAttr K c.Ledger "told_prices"
  no_Ledger_accounts : NoAttr K c.Ledger "accounts"
end Nk64
set_option Elab.async false
set_option linter.all false
set_option maxRecDepth 100000
set_option maxHeartbeats 4000000
namespace Nk64
open PySem L2 Np
class StF where
  st : List Nd
structure Tn [StF] (n : Nat) (t : Tau) : Prop where
  a0 : 0 ≤ t.at'
  a1 : t.at' ≤ n
  l0 : 0 ≤ t.left
  st : t.st = StF.st
theorem Tn.mono [StF] {n m : Nat} {t : Tau} (h : Tn n t) (e : n ≤ m) : Tn m t := ⟨h.a0, by have := h.a1; omega, h.l0, h.st⟩
theorem tn_of {n : Nat} {t : Tau} (h : Np.Tn n t) : @Tn ⟨t.st⟩ n t := @Tn.mk ⟨t.st⟩ n t h.a0 h.a1 h.l0 rfl
theorem tn_base [StF] {n : Nat} {t : Tau} (h : Tn n t) : Np.Tn n t := ⟨h.a0, h.a1, h.l0⟩
theorem atI_intsD {ns : List Int} {i : Int} (h0 : 0 ≤ i) (h1 : i < ns.length) : ∃ v, atI (ns.map DD.int) i = some (.int v) := by
  obtain ⟨j, rfl⟩ := Int.eq_ofNat_of_zero_le h0
  have hj : j < ns.length := by omega
  exact ⟨ns[j], atI_nat (by rw [List.getElem?_map, List.getElem?_eq_getElem hj] <;> rfl)⟩
theorem take_F [StF] {F : Fn} {n q : Nat} {m : Int} {t : Tau} (h : Tn n t) (hn : n < 2 ^ 58) (hm : 0 < m) (hmm : m < 1073741824)
    (hF : 1000000 < m → ∀ (n' : Nat) (t' : Tau), Tn n' t' → n' ≤ n + 1 → ∃ r t'', F [.tape, .fr (.int (m.fdiv 1000000 + 1))] (some t') = .ok (.int r) (some t'') ∧ 0 ≤ r ∧ r < 2000000 ∧ Tn (n' + q) t'') :
    ∃ r t', bodyF 6 (b__law_take F) [.tape, .fr (.int m)] (some t) = .ok (.int r) (some t') ∧ 0 ≤ r ∧ r < m ∧ Tn (n + 2 + q) t' := by
  have mods : ∀ x : Int, 0 ≤ x % m ∧ x % m < m := fun x => ⟨Int.emod_nonneg _ (by omega), Int.emod_lt_of_pos _ hm⟩
  have tail : ∀ (T cell : Int) (t1 t0 : Tau), 0 ≤ T ∧ T < 2 ^ 59 → Tn (n + 1) t1 → ∃ r t', eBody (b__law_take_6 F [some .tape, some (.fr (.int m)), none, some (.fr (.int T)), some (.fr (.int cell)), none] (some t1)) (some t0) = .ok (.int r) (some t') ∧ 0 ≤ r ∧ r < m ∧ Tn (n + 2 + q) t' := by
    intro T cell t1 t0 hT T1
    have c1 := Int.emod_nonneg cell (show (2147483587 : Int) ≠ 0 by omega)
    have c2 := Int.emod_lt_of_pos cell (show (0 : Int) < 2147483587 by omega)
    generalize hx : (cell % 2147483587 * 40692 + 7907 * T * T + 104729 * T + 17) % 2147483629 = x
    have x0 : 0 ≤ x := by rw [← hx]; exact Int.emod_nonneg _ (by omega)
    have x1 : x < 2147483629 := by rw [← hx]; exact Int.emod_lt_of_pos _ (by omega)
    generalize hy : (x * x + 48271 * x + 31) % 2147483647 = y
    have y0 : 0 ≤ y := by rw [← hy]; exact Int.emod_nonneg _ (by omega)
    have y1 : y < 2147483647 := by rw [← hy]; exact Int.emod_lt_of_pos _ (by omega)
    have m1 : CMul (cell % 2147483587) 40692 := .inr ⟨by decide, by decide⟩
    have m2 : CMul 7907 T := .inl ⟨by decide, by decide⟩
    have m3 : CMul (7907 * T) T := .inr ⟨by omega, by omega⟩
    have m4 : CMul 104729 T := .inl ⟨by decide, by decide⟩
    have m5 : CMul x x := .inl ⟨by omega, by omega⟩
    have m6 : CMul 48271 x := .inl ⟨by decide, by decide⟩
    have m9 : ∀ z, CDiv z 97 := fun z => ⟨by decide, by decide⟩
    have p6 : CPow 10 6 := by decide
    by_cases hb : (1000000 : Int) < m
    · obtain ⟨r, t2, e, r0, r1, T2⟩ := hF hb _ _ T1 (by omega)
      have dn : CDivN m 1000000 := ⟨by omega, by omega⟩
      have m7 : CMul 1000000 r := .inl ⟨by decide, by decide⟩
      refine ⟨(y / 97 % 1000000 + 1000000 * r) % m, t2, ?_, (mods _).1, (mods _).2, T2.mono (by omega)⟩
      simp [b__law_take_6, b__law_take_7, b__law_take_8, b__law_take_9, m1, m2, m3, m4, m5, m6, m7, m9, p6, hb, hm, hx, hy, dn, e]
    · refine ⟨y / 97 % m, t1, ?_, (mods _).1, (mods _).2, T1.mono (by omega)⟩
      simp [b__law_take_6, b__law_take_7, b__law_take_8, b__law_take_9, m1, m2, m3, m4, m5, m6, m9, p6, hb, hm, hx, hy]
  have five : ∀ (T cell : Int) (t1 t0 : Tau), 0 ≤ T ∧ T < 2 ^ 59 → Tn (n + 1) t1 → ∃ r t', eBody (b__law_take_5 F [some .tape, some (.fr (.int m)), none, some (.fr (.int T)), some (.fr (.int cell)), none] (some t1)) (some t0) = .ok (.int r) (some t') ∧ 0 ≤ r ∧ r < m ∧ Tn (n + 2 + q) t' := by
    intro T cell t1 t0 hT T1
    obtain ⟨r, t2, e, q⟩ := tail T cell t1 t0 hT T1
    have dn : ∀ x, CDivN x m := fun x => ⟨by omega, by omega⟩
    have pw : CPow 10 18 := by decide
    by_cases h1 : T < t1.cells.length
    · by_cases h2 : (1000000000000000000 : Int) ≤ cell
      · refine ⟨(cell - 1000000000000000000) % m, { t1 with left := (cell - 1000000000000000000).fdiv m }, ?_, (mods _).1, (mods _).2, T1.a0, by have := T1.a1; show t1.at' ≤ _; omega, ?_, T1.st⟩
        · simp [b__law_take_5, h1, h2, dn, pw, hm]
        · show 0 ≤ Int.fdiv _ _
          rw [Int.fdiv_eq_ediv_of_nonneg _ (by omega)]
          exact Int.ediv_nonneg (by omega) (by omega)
      · exact ⟨r, t2, by simp [b__law_take_5, h1, h2, pw, e], q⟩
    · exact ⟨r, t2, by simp [b__law_take_5, h1, e], q⟩
  obtain ⟨h0, h1, h2, h3⟩ := h
  by_cases hl : 0 < t.left
  · have dn : CDivN t.left m := ⟨by omega, by omega⟩
    refine ⟨t.left % m, { t with left := t.left.fdiv m }, by simp [b__law_take, ev_body, startP, List.replicate, hl, hm, dn], (mods _).1, (mods _).2, h0, by show t.at' ≤ _; omega, ?_, h3⟩
    show 0 ≤ t.left.fdiv m
    rw [Int.fdiv_eq_ediv_of_nonneg _ (by omega)]
    exact Int.ediv_nonneg h2 (by omega)
  · have hT : Tn (n + 1) { t with at' := t.at' + 1 } := ⟨by show 0 ≤ t.at' + 1; omega, by show t.at' + 1 ≤ _; omega, h2, h3⟩
    cases hc : t.cells.isEmpty with
    | true =>
      obtain ⟨r, t', e, q⟩ := five t.at' 5 _ t ⟨h0, by omega⟩ hT
      exact ⟨r, t', by simp [b__law_take, b__law_take_1, b__law_take_2, b__law_take_3, b__law_take_4, ev_body, startP, List.replicate, hl, hc, e], q⟩
    | false =>
      have hp : 0 < t.cells.length := by
        cases hh : t.cells with
        | nil => rw [hh] at hc; cases hc
        | cons a b => simp
      obtain ⟨v, hv⟩ := atI_intsD (ns := t.cells) (i := t.at' % t.cells.length) (Int.emod_nonneg _ (by omega)) (Int.emod_lt_of_pos _ (by omega))
      obtain ⟨r, t', e, q⟩ := five t.at' v _ t ⟨h0, by omega⟩ hT
      exact ⟨r, t', by simp [b__law_take, b__law_take_1, b__law_take_2, b__law_take_3, b__law_take_4, ev_body, startP, List.replicate, hl, hc, hp, hv, e], q⟩
theorem take_F0 [StF] {F : Fn} {n : Nat} {m : Int} {t : Tau} (h : Tn n t) (hn : n < 2 ^ 58) (hm : 0 < m) (hmm : m ≤ 1000000) : ∃ r t', bodyF 6 (b__law_take F) [.tape, .fr (.int m)] (some t) = .ok (.int r) (some t') ∧ 0 ≤ r ∧ r < m ∧ Tn (n + 2) t' :=
  take_F (q := 0) h hn hm (by omega) fun z => by omega
theorem take_small [StF] {n k : Nat} {m : Int} {t : Tau} (h : Tn n t) (hn : n < 2 ^ 58) (hm : 0 < m) (hmm : m ≤ 1000000) : ∃ r t', d__law_take_r (k + 1) [.tape, .fr (.int m)] (some t) = .ok (.int r) (some t') ∧ 0 ≤ r ∧ r < m ∧ Tn (n + 2) t' := by
  obtain ⟨r, t', e, r0, r1, T⟩ := take_F0 (F := d__law_take_r k) h hn hm hmm
  exact ⟨r, t', e, r0, r1, T⟩
theorem draw_ok [StF] {n : Nat} {m : Int} {t : Tau} (h : Tn n t) (hn : n < 2 ^ 50) (hm : 0 < m) (hmm : m < 1073741824) : ∃ r t', d__law_take [.tape, .fr (.int m)] (some t) = .ok (.int r) (some t') ∧ 0 ≤ r ∧ r < m ∧ Tn (n + 5) t' := by
  obtain ⟨r, t', e, r0, r1, T⟩ := take_F (F := d__law_take_r 1) (q := 2) h (by omega) hm hmm fun z n' t' T hn' => by
    have e : m.fdiv 1000000 = m / 1000000 := Int.fdiv_eq_ediv_of_nonneg _ (by omega)
    obtain ⟨r, t'', e1, r0, r1, T1⟩ := take_small (k := 0) (m := m.fdiv 1000000 + 1) T (by omega) (by omega) (by omega)
    exact ⟨r, t'', e1, r0, by omega, T1⟩
  exact ⟨r, t', e, r0, r1, T.mono (by omega)⟩
def AZ : List Nat := (Str.ofString "abcdefghijklmnopqrstuvwxyz").cps.toList
theorem lit_az : Str.ofString "abcdefghijklmnopqrstuvwxyz" = S AZ := by unfold AZ; rw [← S_of]
theorem lit_emp : Str.ofString "" = S [] := by decide +kernel
theorem AZ_len : AZ.length = 26 := by decide +kernel
theorem AZ_cp : Cp AZ := by unfold Cp; decide +kernel
theorem atI_natE {α : Type} {xs : List α} {k : Nat} : atI xs (k : Int) = xs[k]? := by
  unfold atI ixN
  by_cases h : k < xs.length
  · rw [if_pos (by omega), if_pos (by omega)]; simp
  · rw [if_pos (by omega), if_neg (by omega), List.getElem?_eq_none (by omega)]; rfl
theorem az_get {r : Int} (h0 : 0 ≤ r) (h1 : r < 26) : ∃ c, atI AZ r = some c ∧ c < 1114112 := by
  obtain ⟨j, rfl⟩ := Int.eq_ofNat_of_zero_le h0
  have hj : j < AZ.length := by rw [AZ_len]; omega
  exact ⟨AZ[j], by rw [atI_natE]; exact List.getElem?_eq_getElem hj, AZ_cp _ (List.getElem_mem hj)⟩
def repL (n : Nat) (l : List Nat) : List Nat := (List.replicate n l).flatten
theorem mul_S (l : List Nat) (n : Nat) : Txt.mul (S l) (n : Int) = S (repL n l) := by
  rw [S_of (Txt.mul (S l) (n : Int)), toList_mul, S_l]; rfl
theorem repL_len (n : Nat) (l : List Nat) : (repL n l).length = n * l.length := by
  unfold repL
  rw [List.length_flatten, List.map_replicate, List.sum_replicate_nat]
theorem repL_cp {n : Nat} {l : List Nat} (h : Cp l) : Cp (repL n l) := fun c hc => by
  unfold repL at hc
  obtain ⟨q, hq, hc⟩ := List.mem_flatten.mp hc
  rw [List.eq_of_mem_replicate hq] at hc
  exact h c hc
theorem steps12 {r : Int} (h0 : 0 ≤ r) (h1 : r < 12) : ∃ v : Int, atI [DD.int 1, .int 3, .int 5, .int 7, .int 9, .int 11, .int 15, .int 17, .int 19, .int 21, .int 23, .int 25] r = some (.int v) ∧ 0 < v ∧ v ≤ 25 ∧ (v = 1 ∨ v = 3 ∨ v = 5 ∨ v = 7 ∨ v = 9 ∨ v = 11 ∨ v = 15 ∨ v = 17 ∨ v = 19 ∨ v = 21 ∨ v = 23 ∨ v = 25) := by
  obtain ⟨j, rfl⟩ := Int.eq_ofNat_of_zero_le h0
  have hj : j < 12 := by omega
  have : ∀ j, j < 12 → ∃ v : Int, ([1, 3, 5, 7, 9, 11, 15, 17, 19, 21, 23, 25] : List Int)[j]? = some v ∧ 0 < v ∧ v ≤ 25 ∧ (v = 1 ∨ v = 3 ∨ v = 5 ∨ v = 7 ∨ v = 9 ∨ v = 11 ∨ v = 15 ∨ v = 17 ∨ v = 19 ∨ v = 21 ∨ v = 23 ∨ v = 25) := by
    intro j hj
    have : j = 0 ∨ j = 1 ∨ j = 2 ∨ j = 3 ∨ j = 4 ∨ j = 5 ∨ j = 6 ∨ j = 7 ∨ j = 8 ∨ j = 9 ∨ j = 10 ∨ j = 11 := by omega
    rcases this with rfl | rfl | rfl | rfl | rfl | rfl | rfl | rfl | rfl | rfl | rfl | rfl <;> exact ⟨_, rfl, by decide, by decide, by decide⟩
  obtain ⟨v, e, q⟩ := this j hj
  refine ⟨v, ?_, q⟩
  rw [atI_natE]
  have : ([DD.int 1, .int 3, .int 5, .int 7, .int 9, .int 11, .int 15, .int 17, .int 19, .int 21, .int 23, .int 25] : List DD) = ([1, 3, 5, 7, 9, 11, 15, 17, 19, 21, 23, 25] : List Int).map DD.int := rfl
  rw [this, List.getElem?_map, e]
  rfl
theorem AZ_nodup : AZ.Nodup := by decide +kernel
theorem az_inj {i j : Int} {c : Nat} (h0 : 0 ≤ i) (h1 : i < 26) (g0 : 0 ≤ j) (g1 : j < 26) (hi : atI AZ i = some c) (hj : atI AZ j = some c) : i = j := by
  obtain ⟨a, rfl⟩ := Int.eq_ofNat_of_zero_le h0
  obtain ⟨b, rfl⟩ := Int.eq_ofNat_of_zero_le g0
  rw [atI_natE] at hi hj
  have ha : a < AZ.length := by rw [AZ_len]; omega
  have := (List.getElem?_inj ha AZ_nodup).mp (hi.trans hj.symm)
  omega
theorem names_ok [StF] {n M : Nat} {t : Tau} (h : Tn n t) (hn : n < 2 ^ 40) (hM : M ≤ 26) : ∃ ps t', d__law_names [.tape, .fr (.int (M : Int))] (some t) = .ok (.lst (sL ps)) (some t') ∧ ps.length = M ∧ (∀ p ∈ ps, p.length ≤ 9) ∧ Cps ps ∧ Tn (n + 100) t' ∧ ps.Nodup := by
  obtain ⟨r1, t1, e1, a1, b1, T1⟩ := draw_ok h (by omega) (m := 8) (by decide) (by decide)
  have sl := AZ_len
  obtain ⟨ys, τ5, e5, ly, py, t5, rfl, T5⟩ := lcL_draw (t := .nm 4) (a := dOp gIxS (dV 2) (dCallN 2 d__law_take [] (dpCons (dpT 0) (dpCons (dpE (dC (.int 26))) dpNil)))) (ρ := [some .tape, some (.fr (.int (M : Int))), some (.fr (.str (S AZ))), none, none, none, none, none, none, none])
    (fun y => ∃ c, y = .str (S [c]) ∧ c < 1114112) (fun k τ => ∃ t, τ = some t ∧ Tn (n + 5 + 5 * k) t) (rangeD 0 (1 + r1).toNat) 0 (some t1) ⟨t1, rfl, T1⟩ (by
      rintro j d τ hj hd ⟨t, rfl, T⟩
      rw [rangeD_len] at hj
      refine ⟨_, tgF_nm, ?_⟩
      obtain ⟨r, t', e, a, b, T'⟩ := draw_ok T (by omega) (m := 26) (by decide) (by decide)
      obtain ⟨c, ec, hc⟩ := az_get a b
      exact ⟨.str (S [c]), some t', by simp (disch := first | omega | (simp <;> omega) | fail) [if_pos, e, sl, ec, S_one], ⟨c, rfl, hc⟩, t', rfl, T'.mono (by omega)⟩)
  obtain ⟨cs, rfl, hcs⟩ := all_signs py
  rw [List.length_map, rangeD_len] at ly
  rw [rangeD_len, Nat.zero_add] at T5
  have jn := join_signs (cs := cs) (by omega)
  have rg : rgOk 0 (1 + r1) := by unfold rgOk; omega
  obtain ⟨r6, t6, e6, a6, b6, T6⟩ := draw_ok T5 (by omega) (m := (cs.length : Int)) (by omega) (by omega)
  obtain ⟨r7, t7, e7, a7, b7, T7⟩ := draw_ok T6 (by omega) (m := 26) (by decide) (by decide)
  obtain ⟨r8, t8, e8, a8, b8, T8⟩ := draw_ok T7 (by omega) (m := 12) (by decide) (by decide)
  obtain ⟨v, ev, v1, v2, v3⟩ := steps12 a8 b8
  obtain ⟨br, t9, T9, hbr⟩ : ∃ (br : Bool) (t9 : Tau), Tn (n + 100) t9 ∧ ((br = true ∧ M < 9 ∧ ∃ r9, d__law_take [.tape, .fr (.int 3)] (some t8) = .ok (.int r9) (some t9) ∧ r9 = 0) ∨ (br = false ∧ ((¬ M < 9 ∧ t9 = t8) ∨ (M < 9 ∧ ∃ r9, d__law_take [.tape, .fr (.int 3)] (some t8) = .ok (.int r9) (some t9) ∧ ¬ r9 = 0)))) := by
    by_cases hM9 : M < 9
    · obtain ⟨r9, t9, e9, a9, b9, T9⟩ := draw_ok T8 (by omega) (m := 3) (by decide) (by decide)
      by_cases q : r9 = 0
      · exact ⟨true, t9, T9.mono (by omega), .inl ⟨rfl, hM9, r9, e9, q⟩⟩
      · exact ⟨false, t9, T9.mono (by omega), .inr ⟨rfl, .inr ⟨hM9, r9, e9, q⟩⟩⟩
    · exact ⟨false, t8, T8.mono (by omega), .inr ⟨rfl, .inl ⟨hM9, rfl⟩⟩⟩
  have cm : ∀ k : Int, CMul v k := fun k => .inl ⟨by omega, by omega⟩
  have rg6 : rgOk 0 (M : Int) := by unfold rgOk; omega
  have rd : rangeD 0 M = (List.range M).map fun (i : Nat) => DD.int (0 + (i : Int)) := by rw [rangeD_map, List.map_map]; rfl
  have rln : (rangeD 0 M).length = M := rangeD_len 0 M
  rcases hbr with ⟨_, hM9, r9, e9, rfl⟩ | ⟨_, hbr⟩
  · have hM9' : (M : Int) < 9 := by omega
    have mo : MulOk (S cs) 8 := mulOk_of (by omega) (by omega) (by simp; omega)
    have me : Txt.mul (S cs) 8 = S (repL 8 cs) := mul_S cs 8
    have rl := repL_len 8 cs
    have lc : ∀ o8 o9, lcL (.nm 4) dYes (dSl gSlS (dOp gMulS (dV 3) (dC (.int 8))) dNoP (dPart (dOp gAdd (dC (.int 1)) (dOp gMod (dOp gAdd (dV 6) (dOp gMul (dV 7) (dV 4))) (dC (.int 8)))))) [some .tape, some (.fr (.int (M : Int))), some (.fr (.str (S AZ))), some (.fr (.str (S cs))), none, some (.fr (.int r6)), some (.fr (.int r7)), some (.fr (.int v)), o8, o9] (rangeD 0 M) (some t9)
        = .ok (sL ((List.range M).map fun (i : Nat) => (repL 8 cs).take (1 + ((r7 + v * (i : Int)) % 8).toNat))) (some t9) := fun o8 o9 => by
      rw [rd]
      unfold sL
      rw [List.map_map]
      refine lcL_mapOf fun i hi => ⟨_, tgF_nm, ?_⟩
      have m0 : 0 ≤ (r7 + v * (i : Int)) % 8 := Int.emod_nonneg _ (by decide)
      have ct : cutL (repL 8 cs) none (some (1 + (r7 + v * (i : Int)) % 8)) = (repL 8 cs).take (1 + ((r7 + v * (i : Int)) % 8).toNat) := by rw [cutL_to (by omega)]; congr 1; omega
      simp (disch := first | omega | (simp <;> omega) | fail) [if_pos, mo, me, rl, cm, ct]
    refine ⟨(List.range M).map fun (i : Nat) => (repL 8 cs).take (1 + ((r7 + v * (i : Int)) % 8).toNat), t9, ?_, by simp, ?_, ?_, T9, ?_⟩
    · simp (disch := first | omega | (simp <;> omega) | fail) [if_pos, d__law_names, b__law_names, b__law_names_1, b__law_names_2, b__law_names_3, b__law_names_4, ev_body, hM9, hM9', startP, List.replicate, lit_az, lit_emp, e1, rg, e5, jn, e6, e7, e8, ev, e9, rg6, rln, lc]
    · intro p hp
      obtain ⟨i, _, rfl⟩ := List.mem_map.mp hp
      have := Int.emod_lt_of_pos (r7 + v * (i : Int)) (show (0 : Int) < 8 by decide)
      rw [List.length_take]
      omega
    · intro p hp
      obtain ⟨i, _, rfl⟩ := List.mem_map.mp hp
      exact (repL_cp hcs).take _
    · have cl : 8 ≤ 8 * cs.length := by omega
      rw [List.Nodup, List.pairwise_map]
      have : (List.range M).Pairwise fun a b => a < b := List.pairwise_lt_range
      refine this.imp_of_mem fun {a b} ha hb hab e => ?_
      have ha' := List.mem_range.mp ha
      have hb' := List.mem_range.mp hb
      have e2 := congrArg List.length e
      have x0 := Int.emod_nonneg (r7 + v * (a : Int)) (show (8 : Int) ≠ 0 by decide)
      have x1 := Int.emod_lt_of_pos (r7 + v * (a : Int)) (show (0 : Int) < 8 by decide)
      have y0 := Int.emod_nonneg (r7 + v * (b : Int)) (show (8 : Int) ≠ 0 by decide)
      have y1 := Int.emod_lt_of_pos (r7 + v * (b : Int)) (show (0 : Int) < 8 by decide)
      rw [List.length_take, List.length_take, rl] at e2
      have e3 : (r7 + v * (a : Int)) % 8 = (r7 + v * (b : Int)) % 8 := by omega
      rcases v3 with rfl | rfl | rfl | rfl | rfl | rfl | rfl | rfl | rfl | rfl | rfl | rfl <;> omega
  · have sg : ∀ i : Nat, ∃ c, atI AZ ((r7 + v * (i : Int)) % 26) = some c ∧ c < 1114112 := fun i => az_get (Int.emod_nonneg _ (by decide)) (Int.emod_lt_of_pos _ (by decide))
    obtain ⟨f, hf⟩ : ∃ f : Nat → Nat, ∀ i : Nat, atI AZ ((r7 + v * (i : Int)) % 26) = some (f i) ∧ f i < 1114112 := ⟨fun i => (sg i).choose, fun i => (sg i).choose_spec⟩
    obtain ⟨k6, rfl⟩ := Int.eq_ofNat_of_zero_le a6
    have hk6 : k6 < cs.length := by omega
    have lc1 : ∀ o8 o9, lcL (.nm 4) dYes (dOp gIxS (dV 2) (dOp gMod (dOp gAdd (dV 6) (dOp gMul (dV 7) (dV 4))) (dC (.int 26)))) [some .tape, some (.fr (.int (M : Int))), some (.fr (.str (S AZ))), some (.fr (.str (S cs))), none, some (.fr (.int (k6 : Int))), some (.fr (.int r7)), some (.fr (.int v)), o8, o9] (rangeD 0 M) (some t9)
        = .ok (sL ((List.range M).map fun (i : Nat) => [f i])) (some t9) := fun o8 o9 => by
      rw [rd]
      unfold sL
      rw [List.map_map]
      refine lcL_mapOf fun i hi => ⟨_, tgF_nm, ?_⟩
      have := (hf i).1
      simp (disch := first | omega | (simp <;> omega) | fail) [if_pos, cm, this, S_one, sl]
    have lc2 : ∀ o4 o8, lcL (.nm 9) dYes (dOp gCatS (dOp gCatS (dSl gSlS (dV 3) dNoP (dPart (dV 5))) (dV 9)) (dSl gSlS (dV 3) (dPart (dOp gAdd (dV 5) (dC (.int 1)))) dNoP)) [some .tape, some (.fr (.int (M : Int))), some (.fr (.str (S AZ))), some (.fr (.str (S cs))), o4, some (.fr (.int (k6 : Int))), some (.fr (.int r7)), some (.fr (.int v)), o8, none] (sL ((List.range M).map fun (i : Nat) => [f i])) (some t9)
        = .ok (sL ((List.range M).map fun (i : Nat) => cs.take k6 ++ [f i] ++ cs.drop (k6 + 1))) (some t9) := fun o4 o8 => by
      unfold sL
      rw [List.map_map, List.map_map]
      refine lcL_mapOf fun i hi => ⟨_, tgF_nm, ?_⟩
      have c1 : cutL cs none (some (k6 : Int)) = cs.take k6 := by rw [cutL_to (by omega)]; rfl
      have c2 : cutL cs (some ((k6 : Int) + 1)) none = cs.drop (k6 + 1) := by rw [cutL_from (by omega)]; congr 1
      simp (disch := first | omega | (simp <;> omega) | fail) [if_pos, c1, c2]
    have sl6 : (sL ((List.range M).map fun (i : Nat) => [f i])).length = M := by rw [sL_len]; simp
    refine ⟨(List.range M).map fun (i : Nat) => cs.take k6 ++ [f i] ++ cs.drop (k6 + 1), t9, ?_, by simp, ?_, ?_, T9, ?_⟩
    · rcases hbr with ⟨hM9, rfl⟩ | ⟨hM9, r9, e9, q⟩
      · have hM9' : ¬ (M : Int) < 9 := by omega
        simp (disch := first | omega | (simp <;> omega) | fail) [if_pos, d__law_names, b__law_names, b__law_names_1, b__law_names_2, b__law_names_3, b__law_names_4, b__law_names_5, b__law_names_6, ev_body, startP, List.replicate, lit_az, lit_emp, e1, rg, e5, jn, e6, e7, e8, ev, hM9, hM9', rg6, rln, sl6, lc1, lc2]
      · have hM9' : (M : Int) < 9 := by omega
        simp (disch := first | omega | (simp <;> omega) | fail) [if_pos, d__law_names, b__law_names, b__law_names_1, b__law_names_2, b__law_names_3, b__law_names_4, b__law_names_5, b__law_names_6, ev_body, startP, List.replicate, lit_az, lit_emp, e1, rg, e5, jn, e6, e7, e8, ev, e9, q, hM9, hM9', rg6, rln, sl6, lc1, lc2]
    · intro p hp
      obtain ⟨i, _, rfl⟩ := List.mem_map.mp hp
      simp
      omega
    · intro p hp
      obtain ⟨i, _, rfl⟩ := List.mem_map.mp hp
      exact ((Cp.take hcs _).app (Cp.cons (hf i).2 Cp.nil)).app (Cp.drop hcs _)
    · have inj : ∀ i j : Nat, i < M → j < M → f i = f j → i = j := by
        intro i j hi hj e
        have h1 := (hf i).1
        have h2 := (hf j).1
        rw [← e] at h2
        have := az_inj (Int.emod_nonneg _ (by decide)) (Int.emod_lt_of_pos _ (by decide)) (Int.emod_nonneg _ (by decide)) (Int.emod_lt_of_pos _ (by decide)) h1 h2
        rcases v3 with rfl | rfl | rfl | rfl | rfl | rfl | rfl | rfl | rfl | rfl | rfl | rfl <;> omega
      rw [List.Nodup, List.pairwise_map]
      have : (List.range M).Pairwise fun a b => a < b := List.pairwise_lt_range
      refine this.imp_of_mem fun ha hb hab e => ?_
      have e2 := List.append_cancel_left (List.append_cancel_right e)
      simp only [List.cons.injEq, and_true] at e2
      have := inj _ _ (List.mem_range.mp ha) (List.mem_range.mp hb) e2
      omega
theorem drw {n : Nat} {m : Int} {t : Tau} (h : Np.Tn n t) (hn : n < 2 ^ 50) (hm : 0 < m) (hmm : m < 1073741824) : ∃ r t', d__law_take [.tape, .fr (.int m)] (some t) = .ok (.int r) (some t') ∧ 0 ≤ r ∧ r < m ∧ Np.Tn (n + 5) t' ∧ t'.st = t.st := by
  letI : StF := ⟨t.st⟩
  obtain ⟨r, t', e, a, b, T⟩ := draw_ok (tn_of h) hn hm hmm
  exact ⟨r, t', e, a, b, tn_base T, T.st⟩
theorem nms {n M : Nat} {t : Tau} (h : Np.Tn n t) (hn : n < 2 ^ 40) (hM : M ≤ 26) : ∃ ps t', d__law_names [.tape, .fr (.int (M : Int))] (some t) = .ok (.lst (sL ps)) (some t') ∧ ps.length = M ∧ (∀ p ∈ ps, p.length ≤ 9) ∧ Cps ps ∧ Np.Tn (n + 100) t' ∧ ps.Nodup ∧ t'.st = t.st := by
  letI : StF := ⟨t.st⟩
  obtain ⟨ps, t', e, a, b, c, T, d⟩ := names_ok (tn_of h) hn hM
  exact ⟨ps, t', e, a, b, c, tn_base T, d, T.st⟩
structure Ac where
  pa : Nat
  ps : Nat
  pc : Nat
  sent : List (Int × Int)
  came : List (Int × Int)
  paid : Int
structure Lg where
  pl : Nat
  pp : Nat
  px : Nat
  price : Int
  free : Int
  within : Int
  prices : List (Int × Int)
  accs : List (PySem.Str × Ac)
def acF (a : Ac) : List (PySem.Str × DD) := [("sent", .ptr a.ps), ("came", .ptr a.pc), ("paid", .int a.paid)]
def acH (a : Ac) : List (Nat × Nd) := [(a.pa, .obj "Account" (acF a)), (a.ps, .dK (iD DD.int a.sent)), (a.pc, .dK (iD DD.int a.came))]
def lgF (L : Lg) : List (PySem.Str × DD) := [("price", .int L.price), ("free", .int L.free), ("within", .int L.within), ("told_prices", .ptr L.pp), ("accounts", .ptr L.px)]
def apD (a : Ac) : DD := .ptr a.pa
def lgH (L : Lg) : List (Nat × Nd) := (L.pl, .obj "Ledger" (lgF L)) :: (L.pp, .dK (iD DD.int L.prices)) :: (L.px, .dK (sD apD L.accs)) :: L.accs.flatMap fun p => acH p.2
structure AcAt (t : Tau) (a : Ac) : Prop where
  o : t.st[a.pa]? = some (.obj "Account" (acF a))
  s : t.st[a.ps]? = some (.dK (iD DD.int a.sent))
  c : t.st[a.pc]? = some (.dK (iD DD.int a.came))
structure LgAt (t : Tau) (L : Lg) : Prop where
  o : t.st[L.pl]? = some (.obj "Ledger" (lgF L))
  p : t.st[L.pp]? = some (.dK (iD DD.int L.prices))
  x : t.st[L.px]? = some (.dK (sD apD L.accs))
  a : ∀ s a, al L.accs s = some a → AcAt t a
theorem objAt_o {t : Tau} {k : Nat} {C : PySem.Str} {fs : List (PySem.Str × DD)} (h : t.st[k]? = some (.obj C fs)) : objAt t.st k = some (C, fs) := by
  unfold objAt
  rw [h]
theorem acAt_of {t : Tau} {a : Ac} {h : List (Nat × Nd)} (H : Hl t.st h) (m : ∀ p ∈ acH a, p ∈ h) : AcAt t a :=
  ⟨H.g (a.pa, _) (m _ (by simp [acH])), H.g (a.ps, _) (m _ (by simp [acH])), H.g (a.pc, _) (m _ (by simp [acH]))⟩
theorem lgAt_of {t : Tau} {L : Lg} {R : List (Nat × Nd)} (H : Hl t.st (lgH L ++ R)) : LgAt t L :=
  ⟨H.g (L.pl, _) (by simp [lgH]), H.g (L.pp, _) (by simp [lgH]), H.g (L.px, _) (by simp [lgH]), fun s a e => acAt_of H fun p hp => by
    have := al_some e
    unfold lgH
    simp only [List.mem_append, List.mem_cons, List.mem_flatMap]
    exact .inl (.inr (.inr (.inr ⟨_, this, hp⟩)))⟩
theorem fa_sent (a : Ac) : List.lookup (Str.ofString "sent") (acF a) = some (.ptr a.ps) := by kernel_rfl
theorem fa_came (a : Ac) : List.lookup (Str.ofString "came") (acF a) = some (.ptr a.pc) := by kernel_rfl
theorem fa_paid (a : Ac) : List.lookup (Str.ofString "paid") (acF a) = some (.int a.paid) := by kernel_rfl
theorem fa_out (a : Ac) : List.lookup (Str.ofString "out_of") (acF a) = none := by kernel_rfl
theorem fa_told (a : Ac) : List.lookup (Str.ofString "nights_told") (acF a) = none := by kernel_rfl
theorem fg_price (L : Lg) : List.lookup (Str.ofString "price") (lgF L) = some (.int L.price) := by kernel_rfl
theorem fg_free (L : Lg) : List.lookup (Str.ofString "free") (lgF L) = some (.int L.free) := by kernel_rfl
theorem fg_within (L : Lg) : List.lookup (Str.ofString "within") (lgF L) = some (.int L.within) := by kernel_rfl
theorem fg_told (L : Lg) : List.lookup (Str.ofString "told_prices") (lgF L) = some (.ptr L.pp) := by kernel_rfl
theorem fg_accs (L : Lg) : List.lookup (Str.ofString "accounts") (lgF L) = some (.ptr L.px) := by kernel_rfl
theorem fg_account_of (L : Lg) : List.lookup (Str.ofString "account_of") (lgF L) = none := by kernel_rfl
theorem fg_price_at (L : Lg) : List.lookup (Str.ofString "price_at") (lgF L) = none := by kernel_rfl
theorem fg_cost_of (L : Lg) : List.lookup (Str.ofString "cost_of") (lgF L) = none := by kernel_rfl
theorem fg_send (L : Lg) : List.lookup (Str.ofString "send") (lgF L) = none := by kernel_rfl
theorem fg_back (L : Lg) : List.lookup (Str.ofString "back") (lgF L) = none := by kernel_rfl
theorem fg_pay (L : Lg) : List.lookup (Str.ofString "pay") (lgF L) = none := by kernel_rfl
theorem fg_from (L : Lg) : List.lookup (Str.ofString "price_from") (lgF L) = none := by kernel_rfl
theorem fg_account (L : Lg) : List.lookup (Str.ofString "account") (lgF L) = none := by kernel_rfl
theorem fg_owes (L : Lg) : List.lookup (Str.ofString "owes") (lgF L) = none := by kernel_rfl
def g0 (xs : List (Int × Int)) (n : Int) : Int := (al xs n).getD 0
def outA (a : Ac) (n : Int) : Int := g0 a.sent n - g0 a.came n
def i3 (p : Int × Int × Int) : DD := .tup [.int p.1, .int p.2.1, .int p.2.2]
def i4 (p : Int × Int × Int × Int) : DD := .tup [.int p.1, .int p.2.1, .int p.2.2.1, .int p.2.2.2]
def tellA (a : Ac) : List (Int × Int × Int) := (sortI (a.sent.map (·.1))).map fun n => (n, g0 a.sent n, g0 a.came n)
theorem getD_map {o : Option Int} {z : Int} : (o.map DD.int).getD (.int z) = .int (o.getD z) := by cases o <;> rfl
theorem out_ok {t : Tau} {a : Ac} (h : AcAt t a) (n : Int) : d_Account_out_of [.fr (.ptr a.pa), .fr (.int n)] (some t) = .ok (.int (outA a n)) (some t) := by
  have o := objAt_o h.o
  have l1 := fa_sent a
  have l2 := fa_came a
  have d1 := isDct_K h.s
  have d2 := isDct_K h.c
  have k1 := look_i (k := n) h.s
  have k2 := look_i (k := n) h.c
  generalize acF a = FS at *
  unfold outA g0
  simp (disch := first | omega | (simp <;> omega) | fail) [if_pos, d_Account_out_of, b_Account_out_of, ev_body, startP, List.replicate, eSFld_at o, l1, l2, d1, d2, k1, k2, getD_map]
theorem told_ok {t : Tau} {a : Ac} (h : AcAt t a) (hl : a.sent.length < 64) : d_Account_nights_told [.fr (.ptr a.pa)] (some t) = .ok (.lst ((tellA a).map i3)) (some t) := by
  have o := objAt_o h.o
  have l1 := fa_sent a
  have l2 := fa_came a
  have d2 := isDct_K h.c
  have so := sort_i h.s hl
  have len : (sortI (a.sent.map (·.1))).length = a.sent.length := by rw [(sortI_perm _).length_eq, List.length_map]
  have lc : lcL (.nm 1) dYes (dTup (dCons (dV 1) (dCons (dSDGet (dSFld "Account" "sent" (dV 0)) (dV 1)) (dCons (dSDGet2 (dSFld "Account" "came" (dV 0)) (dV 1) (dC (.int 0))) dNil)))) [some (.fr (.ptr a.pa)), none] ((sortI (a.sent.map (·.1))).map DD.int) (some t) = .ok ((tellA a).map i3) (some t) := by
    unfold tellA
    rw [List.map_map]
    refine lcL_mapOf fun n hn => ⟨_, tgF_nm, ?_⟩
    have hm : n ∈ a.sent.map (·.1) := (sortI_perm _).mem_iff.mp hn
    obtain ⟨v, hv⟩ : ∃ v, al a.sent n = some v := by
      cases e : al a.sent n with
      | some v => exact ⟨v, rfl⟩
      | none => exact (al_none.mp e hm).elim
    have k1 := look_i (k := n) h.s
    rw [hv] at k1
    have k2 := look_i (k := n) h.c
    have e1 : g0 a.sent n = v := by unfold g0; rw [hv]; rfl
    show _ = R.ok (DD.tup [.int n, .int (g0 a.sent n), .int (g0 a.came n)]) _
    rw [e1]
    unfold g0
    generalize acF a = FS at *
    simp (disch := first | omega | (simp <;> omega) | fail) [if_pos, eSFld_at o, l1, l2, d2, k1, k2, getD_map]
  have hl2 : ((sortI (a.sent.map (·.1))).map DD.int).length ≤ 16777216 := by rw [List.length_map]; omega
  generalize acF a = FS at *
  generalize (sortI (a.sent.map (·.1))).map DD.int = SS at *
  simp (disch := first | omega | (simp <;> omega) | fail) [if_pos, d_Account_nights_told, b_Account_nights_told, ev_body, startP, List.replicate, eSFld_at o, l1, so, hl2, lc]
def leK (xs : List (Int × Int)) (n : Int) : List Int := (xs.map (·.1)).filter fun a => decide (a ≤ n)
def pickP (d : Int) (ps : List (Int × Int)) : List Int → Int
  | [] => d
  | k :: ks => g0 ps (maxL k ks)
def priceL (L : Lg) (n : Int) : Int := pickP L.price L.prices (leK L.prices n)
theorem maxL_mem : ∀ (ks : List Int) (k : Int), maxL k ks ∈ k :: ks
  | [], k => List.mem_cons_self
  | j :: ks, k => by
    have h := maxL_mem ks (max k j)
    show maxL (max k j) ks ∈ _
    rcases List.mem_cons.mp h with h | h
    · rw [h]
      rcases Int.le_total k j with z | z
      · rw [show max k j = j from by omega]
        exact List.mem_cons_of_mem _ List.mem_cons_self
      · rw [show max k j = k from by omega]
        exact List.mem_cons_self
    · exact List.mem_cons_of_mem _ (List.mem_cons_of_mem _ h)
theorem price_ok {t : Tau} {L : Lg} (h : LgAt t L) (hl : L.prices.length ≤ 1000000) (n : Int) : d_Ledger_price_at [.fr (.ptr L.pl), .fr (.int n)] (some t) = .ok (.int (priceL L n)) (some t) := by
  have o := objAt_o h.o
  have l1 := fg_price L
  have l2 := fg_told L
  have kl := keysLe_at (ρ := [some (.fr (.ptr L.pl)), some (.fr (.int n)), none, none]) (v := 0) (i := 1) (j := 3) (w := n) (cls := "Ledger") (f := "told_prices") rfl rfl o l2 h.p (intKs_i L.prices) (by show 3 < 4; decide) (by rw [ad_len, sizeLine_eq]; omega)
  have gm := gMaxD_ok (leK L.prices n)
  have ep : priceL L n = pickP L.price L.prices (leK L.prices n) := rfl
  change dKeysLe _ _ _ _ _ _ _ = .ok (.lst ((leK L.prices n).map DD.int)) _ at kl
  have hK : ∀ k ∈ leK L.prices n, k ∈ L.prices.map (·.1) := fun k hk => (List.mem_filter.mp hk).1
  generalize leK L.prices n = ks at *
  have lk : ∀ k, sdlook t L.pp (.int k) = some ((al L.prices k).map DD.int) := fun k => look_i h.p
  cases ks with
  | nil =>
    rw [ep]
    have gm1 : gMaxD [] = some .non := gm
    have kl1 : dKeysLe _ _ _ _ _ _ _ = .ok (.lst []) _ := kl
    show _ = R.ok (DD.int L.price) _
    generalize lgF L = FS at *
    simp (disch := first | omega | (simp <;> omega) | fail) [if_pos, d_Ledger_price_at, b_Ledger_price_at, b_Ledger_price_at_1, ev_body, startP, List.replicate, kl1, gm1, eSFld_at o, l1]
  | cons k ks =>
    rw [ep]
    have hm : maxL k ks ∈ L.prices.map (·.1) := hK _ (maxL_mem ks k)
    have gm1 : gMaxD (DD.int k :: ks.map DD.int) = some (.int (maxL k ks)) := gm
    have kl1 : dKeysLe _ _ _ _ _ _ _ = .ok (.lst (DD.int k :: ks.map DD.int)) _ := kl
    obtain ⟨v, hv⟩ : ∃ v, al L.prices (maxL k ks) = some v := by
      cases e : al L.prices (maxL k ks) with
      | some v => exact ⟨v, rfl⟩
      | none => exact (al_none.mp e hm).elim
    have lk1 := lk (maxL k ks)
    rw [hv] at lk1
    have e1 : g0 L.prices (maxL k ks) = v := by unfold g0; rw [hv]; rfl
    show _ = R.ok (DD.int (g0 L.prices (maxL k ks))) _
    rw [e1]
    generalize lgF L = FS at *
    simp (disch := first | omega | (simp <;> omega) | fail) [if_pos, d_Ledger_price_at, b_Ledger_price_at, b_Ledger_price_at_1, ev_body, startP, List.replicate, kl1, gm1, eSFld_at o, l2, lk1]
def costL (L : Lg) (n c : Int) : Int := (c - c.fdiv L.free) * priceL L n
theorem cost_ok {t : Tau} {L : Lg} (h : LgAt t L) (hl : L.prices.length ≤ 1000000) (hf : 0 < L.free ∧ L.free < 1073741824) {n c : Int} (hc : 0 ≤ c ∧ c < 1152921504606846976) : d_Ledger_cost_of [.fr (.ptr L.pl), .fr (.int n), .fr (.int c)] (some t) = .ok (.int (costL L n c)) (some t) := by
  have o := objAt_o h.o
  have l1 := fg_free L
  have l2 := fg_price_at L
  have p := price_ok h hl n
  have dn : CDivN c L.free := ⟨by omega, by omega⟩
  have fd : c.fdiv L.free = c / L.free := Int.fdiv_eq_ediv_of_nonneg _ (by omega)
  have q0 : 0 ≤ c / L.free := Int.ediv_nonneg hc.1 (by omega)
  have q1 : c / L.free ≤ c := Int.ediv_le_self _ hc.1
  have cm : CMul (c - c.fdiv L.free) (priceL L n) := .inl ⟨by rw [fd]; omega, by rw [fd]; omega⟩
  unfold costL
  generalize lgF L = FS at *
  simp (disch := first | omega | (simp <;> omega) | fail) [if_pos, d_Ledger_cost_of, b_Ledger_cost_of, ev_body, startP, List.replicate, eSFld_at o, eSMeN1_at o, l1, l2, p, dn, cm]
def rowA (L : Lg) (p : Int × Int × Int) : Int × Int × Int × Int := (p.1, p.2.1, p.2.2, costL L p.1 (p.2.1 - p.2.2))
def rowsA (L : Lg) (a : Ac) : List (Int × Int × Int × Int) := (tellA a).map (rowA L)
def owesA (L : Lg) (a : Ac) : Int := 0 - a.paid + ((rowsA L a).map fun p => p.2.2.2).sum
theorem acc_ok {t : Tau} {L : Lg} {s : PySem.Str} {a : Ac} (h : LgAt t L) (ha : al L.accs s = some a) : d_Ledger_account_of [.fr (.ptr L.pl), .fr (.str s)] (some t) = .ok (.ptr a.pa) (some t) := by
  have o := objAt_o h.o
  have l1 := fg_accs L
  have lk := look_s (k := s) h.x
  rw [ha] at lk
  have lk2 : sdlook t L.px (.str s) = some (some (.ptr a.pa)) := lk
  generalize lgF L = FS at *
  simp (disch := first | omega | (simp <;> omega) | fail) [if_pos, d_Ledger_account_of, b_Ledger_account_of, b_Ledger_account_of_1, ev_bodyN, startP, List.replicate, eSFld_at o, l1, lk2]
theorem account_ok {t : Tau} {L : Lg} {s : PySem.Str} {a : Ac} (h : LgAt t L) (ha : al L.accs s = some a) (hs : a.sent.length < 64) (hl : L.prices.length ≤ 1000000) (hf : 0 < L.free ∧ L.free < 1073741824) (hc : ∀ n, 0 ≤ outA a n ∧ outA a n < 1152921504606846976) :
    d_Ledger_account [.fr (.ptr L.pl), .fr (.str s)] (some t) = .ok (.lst ((rowsA L a).map i4)) (some t) := by
  have o := objAt_o h.o
  have ao := objAt_o (h.a s a ha).o
  have l1 := fg_account_of L
  have l2 := fg_cost_of L
  have l3 := fa_told a
  have ac := acc_ok h ha
  have tl := told_ok (h.a s a ha) hs
  have len : (tellA a).length = a.sent.length := by unfold tellA; rw [List.length_map, (sortI_perm _).length_eq, List.length_map]
  have cs : ∀ p ∈ tellA a, d_Ledger_cost_of [.fr (.ptr L.pl), .fr (.int p.1), .fr (.int (p.2.1 - p.2.2))] (some t) = .ok (.int (costL L p.1 (p.2.1 - p.2.2))) (some t) := fun p hp => by
    obtain ⟨n, _, rfl⟩ := List.mem_map.mp hp
    exact cost_ok h hl hf (hc n)
  obtain ⟨ρ', τ', e, q3, q4, q5, rfl, rfl⟩ := forL_inv (t := .tp [.nm 3, .nm 4, .nm 5]) (δ := b_Ledger_account_L1) (ds := (tellA a).map i3) (ρ := [some (.fr (.ptr L.pl)), some (.fr (.str s)), some (.ow (.lst [])), none, none, none]) (τ := some t)
    (fun i ρ τ => ∃ q3 q4 q5, τ = some t ∧ ρ = [some (.fr (.ptr L.pl)), some (.fr (.str s)), some (.ow (.lst (((tellA a).take i).map fun p => i4 (rowA L p)))), q3, q4, q5])
    ⟨none, none, none, rfl, rfl⟩ (by
      rintro i d ρ τ hd ⟨q3, q4, q5, rfl, rfl⟩
      rw [List.getElem?_map] at hd
      obtain ⟨p, hx, rfl⟩ := Option.map_eq_some_iff.mp hd
      have c1 := cs p (List.mem_of_getElem? hx)
      have li : ((tellA a).take i).length ≤ a.sent.length := by rw [List.length_take]; omega
      have tk : ((tellA a).take (i + 1)).map (fun p => i4 (rowA L p)) = ((tellA a).take i).map (fun p => i4 (rowA L p)) ++ [i4 (rowA L p)] := by
        rw [List.take_add_one, hx, List.map_append]
        rfl
      refine ⟨_, tgF_three, _, _, .inl ?_, some (.fr (.int p.1)), some (.fr (.int p.2.1)), some (.fr (.int p.2.2)), rfl, rfl⟩
      rw [tk]
      have hln : (((tellA a).take i).map fun p => i4 (rowA L p)).length < 16777216 := by rw [List.length_map]; omega
      show _ = R.ok (Ct.nx [_, _, some (PV.ow (.lst (_ ++ [DD.tup [.int p.1, .int p.2.1, .int p.2.2, .int (costL L p.1 (p.2.1 - p.2.2))]]))), _, _, _]) _
      generalize ((tellA a).take i).map (fun p => i4 (rowA L p)) = ACC at *
      generalize lgF L = FS at *
      simp (disch := first | omega | (simp <;> omega) | fail) [if_pos, b_Ledger_account_L1, eSMeN1_at o, l2, c1, hln])
  rw [List.length_map, List.take_length] at e
  have er : (rowsA L a).map i4 = (tellA a).map fun p => i4 (rowA L p) := by unfold rowsA; rw [List.map_map]; rfl
  rw [er]
  generalize (tellA a).map (fun p => i4 (rowA L p)) = RR at *
  generalize (tellA a).map i3 = TT at *
  generalize lgF L = FS at *
  generalize acF a = FA at *
  simp (disch := first | omega | (simp <;> omega) | fail) [if_pos, d_Ledger_account, b_Ledger_account, b_Ledger_account_1, b_Ledger_account_2, ev_body, startP, List.replicate, eSMeN1_at o, eSMeN1_at ao, l1, l3, ac, tl, e]
theorem owes_ok {t : Tau} {L : Lg} {s : PySem.Str} {a : Ac} (h : LgAt t L) (ha : al L.accs s = some a) (hs : a.sent.length < 64) (hl : L.prices.length ≤ 1000000) (hf : 0 < L.free ∧ L.free < 1073741824) (hc : ∀ n, 0 ≤ outA a n ∧ outA a n < 1152921504606846976) :
    d_Ledger_owes [.fr (.ptr L.pl), .fr (.str s)] (some t) = .ok (.int (owesA L a)) (some t) := by
  have o := objAt_o h.o
  have ao := objAt_o (h.a s a ha).o
  have l1 := fg_account_of L
  have l2 := fg_account L
  have l3 := fa_paid a
  have ac := acc_ok h ha
  have at1 := account_ok h ha hs hl hf hc
  have len : (rowsA L a).length = a.sent.length := by unfold rowsA tellA; rw [List.length_map, List.length_map, (sortI_perm _).length_eq, List.length_map]
  have lc : lcL (.nm 2) dYes (dOp gIxT (dV 2) (dC (.int 3))) [some (.fr (.ptr L.pl)), some (.fr (.str s)), none] ((rowsA L a).map i4) (some t) = .ok (((rowsA L a).map fun p => p.2.2.2).map DD.int) (some t) := by
    rw [List.map_map]
    refine lcL_mapOf fun p hp => ⟨_, tgF_nm, ?_⟩
    have e4 : ∀ a b c d : DD, L2.atI [a, b, c, d] 3 = some d := fun a b c d => rfl
    unfold i4
    simp (disch := first | omega | (simp <;> omega) | fail) [if_pos, e4]
  have hl2 : (rowsA L a).length ≤ 16777216 := by omega
  have sm := sumS_ok (a := dCons (dLc (dIList (dSMeN 2 "Ledger" "account" d_Ledger_account (dV 0) (dpCons (dpE (dV 1)) dpNil))) (.nm 2) dYes (dOp gIxT (dV 2) (dC (.int 3))) [2]) dNil) (b := dCons (dOp Np.gSub (dC (.int 0)) (dSFld "Account" "paid" (dSMeN 2 "Ledger" "account_of" d_Ledger_account_of (dV 0) (dpCons (dpE (dV 1)) dpNil)))) dNil)
    (ρ := [some (.fr (.ptr L.pl)), some (.fr (.str s)), none]) (τ := some t) (τ1 := some t) (τ2 := some t) (ns := (rowsA L a).map fun p => p.2.2.2) (j' := 0 - a.paid) (by
      have hl3 : ((rowsA L a).map i4).length ≤ 16777216 := by rw [List.length_map]; omega
      generalize (rowsA L a).map i4 = RR at *
      generalize ((rowsA L a).map fun p => p.2.2.2).map DD.int = NN at *
      generalize lgF L = FS at *
      simp (disch := first | omega | (simp <;> omega) | fail) [if_pos, eSMeN1_at o, l2, at1, hl3, lc]) (by
      generalize lgF L = FS at *
      generalize acF a = FA at *
      simp (disch := first | omega | (simp <;> omega) | fail) [if_pos, eSMeN1_at o, l1, ac, eSFld_at ao, l3])
  unfold owesA
  unfold d_Ledger_owes
  simp (disch := first | omega | (simp <;> omega) | fail) [if_pos, ev_body, startP, List.replicate, b_Ledger_owes, sm]
def TS1 (t t' : Tau) : Prop := t'.cells = t.cells ∧ t'.at' = t.at' ∧ t'.left = t.left
theorem TS1.refl (t : Tau) : TS1 t t := ⟨rfl, rfl, rfl⟩
theorem TS1.put {t : Tau} {k : Nat} {nd : Nd} : TS1 t (putSt t k nd) := ⟨rfl, rfl, rfl⟩
theorem TS1.push {t : Tau} {nd : Nd} : TS1 t (pushSt t nd) := ⟨rfl, rfl, rfl⟩
theorem TS1.trans {t t' t2 : Tau} (h : TS1 t t') (h' : TS1 t' t2) : TS1 t t2 := ⟨h'.1.trans h.1, h'.2.1.trans h.2.1, h'.2.2.trans h.2.2⟩
theorem TS1.tn {N : Nat} {t t' : Tau} (h : TS1 t t') (T : Np.Tn N t) : Np.Tn N t' := ⟨by rw [h.2.1]; exact T.a0, by rw [h.2.1]; exact T.a1, by rw [h.2.2]; exact T.l0⟩
theorem from_ok {t : Tau} {L : Lg} {R : List (Nat × Nd)} (H : Hl t.st (lgH L ++ R)) (hl : L.prices.length < 1000000) (n p : Int) : ∃ t', d_Ledger_price_from [.fr (.ptr L.pl), .fr (.int n), .fr (.int p)] (some t) = .ok .non (some t') ∧ TS1 t t' ∧ Hl t'.st (lgH { L with prices := aput L.prices n p } ++ R) := by
  have h := lgAt_of H
  have o := objAt_o h.o
  have l1 := fg_told L
  have pt := put_i (k := n) (v := p) h.p rfl (by rw [sizeLine_eq]; omega)
  refine ⟨_, ?_, TS1.put, Hl.set (X := [(L.pl, _)]) (by exact H)⟩
  generalize lgF L = FS at *
  simp (disch := first | omega | (simp <;> omega) | fail) [if_pos, d_Ledger_price_from, b_Ledger_price_from, ev_body, startP, List.replicate, eSFld_at o, l1, pt]
def setAc (L : Lg) (l r : List (PySem.Str × Ac)) (s : PySem.Str) (a : Ac) : Lg := { L with accs := l ++ (s, a) :: r }
theorem lgH_mid {L : Lg} {l r : List (PySem.Str × Ac)} {s : PySem.Str} {a : Ac} {R : List (Nat × Nd)} :
    lgH (setAc L l r s a) ++ R = ((L.pl, .obj "Ledger" (lgF L)) :: (L.pp, .dK (iD DD.int L.prices)) :: (L.px, .dK (sD apD (l ++ (s, a) :: r))) :: l.flatMap fun p => acH p.2) ++ (acH a ++ ((r.flatMap fun p => acH p.2) ++ R)) := by
  unfold lgH setAc
  simp only [List.flatMap_append, List.flatMap_cons, List.cons_append, List.append_assoc]
  rfl
theorem sD_mid {l r : List (PySem.Str × Ac)} {s : PySem.Str} {a a' : Ac} (e : a'.pa = a.pa) : sD apD (l ++ (s, a') :: r) = sD apD (l ++ (s, a) :: r) := by
  unfold sD ad
  rw [List.map_append, List.map_append, List.map_cons, List.map_cons]
  unfold apD
  dsimp only
  rw [e]
theorem al_mid {l r : List (PySem.Str × Ac)} {s : PySem.Str} {a : Ac} (hl : ∀ p ∈ l, p.1 ≠ s) : al (l ++ (s, a) :: r) s = some a := by
  induction l with
  | nil => rw [List.nil_append, al_cons, if_pos rfl]
  | cons p l ih => rw [List.cons_append, al_cons, if_neg (hl p List.mem_cons_self), ih fun q hq => hl q (List.mem_cons_of_mem _ hq)]
theorem set_sent {t : Tau} {L : Lg} {l r : List (PySem.Str × Ac)} {s : PySem.Str} {a : Ac} {R : List (Nat × Nd)} {xs : List (Int × Int)} (H : Hl t.st (lgH (setAc L l r s a) ++ R)) : Hl (putSt t a.ps (.dK (iD DD.int xs))).st (lgH (setAc L l r s { a with sent := xs }) ++ R) := by
  rw [lgH_mid] at H ⊢
  rw [sD_mid (a := a) (a' := { a with sent := xs }) rfl]
  generalize ((L.pl, Nd.obj "Ledger" (lgF L)) :: (L.pp, .dK (iD DD.int L.prices)) :: (L.px, .dK (sD apD (l ++ (s, a) :: r))) :: l.flatMap fun p => acH p.2) = X at *
  generalize (r.flatMap fun p => acH p.2) ++ R = Y at *
  have e : ∀ a : Ac, X ++ (acH a ++ Y) = (X ++ [(a.pa, .obj "Account" (acF a))]) ++ (a.ps, .dK (iD DD.int a.sent)) :: ((a.pc, .dK (iD DD.int a.came)) :: Y) := fun a => by
    unfold acH
    simp only [List.cons_append, List.nil_append, List.append_assoc]
  rw [e] at H ⊢
  exact Hl.set H
theorem set_came {t : Tau} {L : Lg} {l r : List (PySem.Str × Ac)} {s : PySem.Str} {a : Ac} {R : List (Nat × Nd)} {xs : List (Int × Int)} (H : Hl t.st (lgH (setAc L l r s a) ++ R)) : Hl (putSt t a.pc (.dK (iD DD.int xs))).st (lgH (setAc L l r s { a with came := xs }) ++ R) := by
  rw [lgH_mid] at H ⊢
  rw [sD_mid (a := a) (a' := { a with came := xs }) rfl]
  generalize ((L.pl, Nd.obj "Ledger" (lgF L)) :: (L.pp, .dK (iD DD.int L.prices)) :: (L.px, .dK (sD apD (l ++ (s, a) :: r))) :: l.flatMap fun p => acH p.2) = X at *
  generalize (r.flatMap fun p => acH p.2) ++ R = Y at *
  have e : ∀ a : Ac, X ++ (acH a ++ Y) = (X ++ [(a.pa, .obj "Account" (acF a)), (a.ps, .dK (iD DD.int a.sent))]) ++ (a.pc, .dK (iD DD.int a.came)) :: Y := fun a => by
    unfold acH
    simp only [List.cons_append, List.nil_append, List.append_assoc]
  rw [e] at H ⊢
  exact Hl.set H
theorem set_paid {t : Tau} {L : Lg} {l r : List (PySem.Str × Ac)} {s : PySem.Str} {a : Ac} {R : List (Nat × Nd)} {x : Int} (H : Hl t.st (lgH (setAc L l r s a) ++ R)) : Hl (putSt t a.pa (.obj "Account" (acF { a with paid := x }))).st (lgH (setAc L l r s { a with paid := x }) ++ R) := by
  rw [lgH_mid] at H ⊢
  rw [sD_mid (a := a) (a' := { a with paid := x }) rfl]
  generalize ((L.pl, Nd.obj "Ledger" (lgF L)) :: (L.pp, .dK (iD DD.int L.prices)) :: (L.px, .dK (sD apD (l ++ (s, a) :: r))) :: l.flatMap fun p => acH p.2) = X at *
  generalize (r.flatMap fun p => acH p.2) ++ R = Y at *
  have e : ∀ a : Ac, X ++ (acH a ++ Y) = X ++ (a.pa, .obj "Account" (acF a)) :: ((a.ps, .dK (iD DD.int a.sent)) :: (a.pc, .dK (iD DD.int a.came)) :: Y) := fun a => by
    unfold acH
    simp only [List.cons_append, List.nil_append]
  rw [e] at H ⊢
  exact Hl.set H
theorem setAc_self {L : Lg} {l r : List (PySem.Str × Ac)} {s : PySem.Str} {a : Ac} (e : L.accs = l ++ (s, a) :: r) : setAc L l r s a = L := by
  unfold setAc
  rw [← e]
theorem pay_ok {t : Tau} {L : Lg} {R : List (Nat × Nd)} {s : PySem.Str} {a : Ac} (H : Hl t.st (lgH L ++ R)) (ha : al L.accs s = some a) (p : Int) : ∃ t' l r, d_Ledger_pay [.fr (.ptr L.pl), .fr (.str s), .fr (.int p)] (some t) = .ok .non (some t') ∧ TS1 t t' ∧ L.accs = l ++ (s, a) :: r ∧ (∀ p ∈ l, p.1 ≠ s) ∧ Hl t'.st (lgH (setAc L l r s { a with paid := a.paid + p }) ++ R) := by
  have h := lgAt_of H
  have o := objAt_o h.o
  have ao := (h.a s a ha).o
  have l1 := fg_account_of L
  have ac := acc_ok h ha
  obtain ⟨l, r, e, hl⟩ := al_split ha
  rw [← setAc_self e] at H
  have fp : putD "paid" (.int (a.paid + p)) (acF a) = acF { a with paid := a.paid + p } := by kernel_rfl
  refine ⟨_, l, r, ?_, TS1.put, e, hl, set_paid (x := a.paid + p) H⟩
  have s1 := sfaug_ok (cls := "Account") (f := "paid") (g := gAdd) (o := dV 3) (e := dV 2) (ρ := [some (.fr (.ptr L.pl)), some (.fr (.str s)), some (.fr (.int p)), some (.fr (.ptr a.pa))]) (τ := some t) (k := a.pa) (t1 := t) (t := t) (fs1 := acF a) (fs := acF a) (v := .int a.paid) (z := .int p) (d := .int (a.paid + p)) rfl (objAt_o ao) (fa_paid a) rfl rfl ao (by show 3 < 1000; decide)
  rw [fp] at s1
  generalize lgF L = FS at *
  simp (disch := first | omega | (simp <;> omega) | fail) [if_pos, d_Ledger_pay, b_Ledger_pay, b_Ledger_pay_1, ev_body, startP, List.replicate, eSMeN1_at o, l1, ac, s1]
theorem back_ok {t : Tau} {L : Lg} {R : List (Nat × Nd)} {s : PySem.Str} {a : Ac} (H : Hl t.st (lgH L ++ R)) (ha : al L.accs s = some a) {n q c : Int} (h1 : q ≤ n + L.within) (h2 : c ≤ outA a n) (hl : a.came.length < 1000000) :
    ∃ t' l r, d_Ledger_back [.fr (.ptr L.pl), .fr (.str s), .fr (.int n), .fr (.int q), .fr (.int c)] (some t) = .ok .non (some t') ∧ TS1 t t' ∧ L.accs = l ++ (s, a) :: r ∧ (∀ p ∈ l, p.1 ≠ s) ∧ Hl t'.st (lgH (setAc L l r s { a with came := aput a.came n (g0 a.came n + c) }) ++ R) := by
  have h := lgAt_of H
  have o := objAt_o h.o
  have A := h.a s a ha
  have ao := objAt_o A.o
  have l1 := fg_account_of L
  have l2 := fg_within L
  have l3 := fa_out a
  have l4 := fa_came a
  have ac := acc_ok h ha
  have ot := out_ok A n
  have d2 := isDct_K A.c
  have k2 := look_i (k := n) A.c
  have pt := put_i (k := n) (v := g0 a.came n + c) A.c rfl (by rw [sizeLine_eq]; omega)
  obtain ⟨l, r, e, hl⟩ := al_split ha
  rw [← setAc_self e] at H
  refine ⟨_, l, r, ?_, TS1.put, e, hl, set_came H⟩
  have n1 : ¬ (n + L.within < q) := by omega
  have n2 : ¬ (outA a n < c) := by omega
  have gg : ((al a.came n).map DD.int).getD (.int 0) = .int (g0 a.came n) := getD_map
  generalize lgF L = FS at *
  generalize acF a = FA at *
  simp (disch := first | omega | (simp <;> omega) | fail) [if_pos, d_Ledger_back, b_Ledger_back, b_Ledger_back_1, b_Ledger_back_2, b_Ledger_back_3, ev_body, startP, List.replicate, eSMeN1_at o, eSMeN1_at ao, eSFld_at o, eSFld_at ao, l1, l2, l3, l4, ac, ot, n1, n2, d2, k2, gg, pt]
theorem pa_1 (a : DD) : putD "sent" a [] = ([("sent", a)] : List (PySem.Str × DD)) := by kernel_rfl
theorem pa_2 (a b : DD) : putD "came" b [("sent", a)] = ([("sent", a), ("came", b)] : List (PySem.Str × DD)) := by kernel_rfl
theorem pa_3 (a b c : DD) : putD "paid" c [("sent", a), ("came", b)] = ([("sent", a), ("came", b), ("paid", c)] : List (PySem.Str × DD)) := by kernel_rfl
theorem pl_1 (a : DD) : putD "price" a [] = ([("price", a)] : List (PySem.Str × DD)) := by kernel_rfl
theorem pl_2 (a b : DD) : putD "free" b [("price", a)] = ([("price", a), ("free", b)] : List (PySem.Str × DD)) := by kernel_rfl
theorem pl_3 (a b c : DD) : putD "within" c [("price", a), ("free", b)] = ([("price", a), ("free", b), ("within", c)] : List (PySem.Str × DD)) := by kernel_rfl
theorem pl_4 (a b c d : DD) : putD "told_prices" d [("price", a), ("free", b), ("within", c)] = ([("price", a), ("free", b), ("within", c), ("told_prices", d)] : List (PySem.Str × DD)) := by kernel_rfl
theorem pl_5 (a b c d e : DD) : putD "accounts" e [("price", a), ("free", b), ("within", c), ("told_prices", d)] = ([("price", a), ("free", b), ("within", c), ("told_prices", d), ("accounts", e)] : List (PySem.Str × DD)) := by kernel_rfl
def stX (t : Tau) (ns : List Nd) : Tau := { t with st := t.st ++ ns }
theorem push_stX {t : Tau} {nd : Nd} : pushSt t nd = stX t [nd] := rfl
@[simp] theorem stX_push {t : Tau} {ns : List Nd} {nd : Nd} : pushSt (stX t ns) nd = stX t (ns ++ [nd]) := by
  unfold pushSt stX
  simp
@[simp] theorem stX_len {t : Tau} {ns : List Nd} : (stX t ns).st.length = t.st.length + ns.length := by
  unfold stX
  simp
theorem stX_0 {t : Tau} {nd : Nd} {ns : List Nd} : (stX t (nd :: ns)).st[t.st.length]? = some nd := by
  unfold stX
  simp
theorem stX_put0 {t : Tau} {nd nd' : Nd} {ns : List Nd} : putSt (stX t (nd :: ns)) t.st.length nd' = stX t (nd' :: ns) := by
  unfold putSt stX
  dsimp only
  rw [List.set_append_right _ _ (Nat.le_refl _), Nat.sub_self]
  rfl
@[simp] theorem eSFSet2_stX {cls f : PySem.Str} {fs : List (PySem.Str × DD)} {ρ : PEnv} {d : DD} {t : Tau} {ns : List Nd} : eSFSet2 (.ok (.ptr t.st.length) (some (stX t (.obj cls fs :: ns)))) cls f ρ d = if fs.length < 1000 then .ok (.nx ρ) (some (stX t (.obj cls (putD f d fs) :: ns))) else .no := by
  rw [eSFSet2_at stX_0, stX_put0]
theorem TS1.stX {t : Tau} {ns : List Nd} : TS1 t (stX t ns) := ⟨rfl, rfl, rfl⟩
def newA (k : Nat) : Ac := ⟨k, k + 1, k + 2, [], [], 0⟩
def ndsA (k : Nat) : List Nd := [.obj "Account" (acF (newA k)), .dK [], .dK []]
theorem init_acc {t : Tau} : d_AccountD_initD [.fr (.ptr t.st.length)] (some (pushSt t (.obj "Account" []))) = .ok .non (some (stX t (ndsA t.st.length))) := by
  rw [push_stX]
  show _ = R.ok DD.non (some (stX t [.obj "Account" [("sent", .ptr (t.st.length + 1)), ("came", .ptr (t.st.length + 2)), ("paid", .int 0)], .dK [], .dK []]))
  simp (disch := first | omega | (simp <;> omega) | fail) [if_pos, d_AccountD_initD, b_AccountD_initD, b_AccountD_initD_1, b_AccountD_initD_2, ev_body, startP, List.replicate, pa_1, pa_2, pa_3]
def newL (k : Nat) (p f w : Int) : Lg := ⟨k, k + 1, k + 2, p, f, w, [], []⟩
def ndsL (k : Nat) (p f w : Int) : List Nd := [.obj "Ledger" (lgF (newL k p f w)), .dK [], .dK []]
theorem init_led {t : Tau} {p f w : Int} : d_LedgerD_initD [.fr (.ptr t.st.length), .fr (.int p), .fr (.int f), .fr (.int w)] (some (pushSt t (.obj "Ledger" []))) = .ok .non (some (stX t (ndsL t.st.length p f w))) := by
  rw [push_stX]
  show _ = R.ok DD.non (some (stX t [.obj "Ledger" [("price", .int p), ("free", .int f), ("within", .int w), ("told_prices", .ptr (t.st.length + 1)), ("accounts", .ptr (t.st.length + 2))], .dK [], .dK []]))
  simp (disch := first | omega | (simp <;> omega) | fail) [if_pos, d_LedgerD_initD, b_LedgerD_initD, b_LedgerD_initD_1, b_LedgerD_initD_2, b_LedgerD_initD_3, b_LedgerD_initD_4, ev_body, startP, List.replicate, pl_1, pl_2, pl_3, pl_4, pl_5]
theorem Hl.new3 {st : List Nd} {X Y : List (Nat × Nd)} {a b c : Nd} (H : Hl st (X ++ Y)) : Hl (st ++ [a, b, c]) (X ++ (st.length, a) :: (st.length + 1, b) :: (st.length + 2, c) :: Y) := by
  have h1 := Hl.new (nd := a) H
  rw [show X ++ (st.length, a) :: Y = (X ++ [(st.length, a)]) ++ Y from by simp] at h1
  have h2 := Hl.new (nd := b) h1
  rw [show (X ++ [(st.length, a)]) ++ ((st ++ [a]).length, b) :: Y = ((X ++ [(st.length, a)]) ++ [((st ++ [a]).length, b)]) ++ Y from by simp] at h2
  have h3 := Hl.new (nd := c) h2
  simpa using h3
theorem newL_hl {t : Tau} {R : List (Nat × Nd)} (H : Hl t.st R) (p f w : Int) : Hl (stX t (ndsL t.st.length p f w)).st (lgH (newL t.st.length p f w) ++ R) := Hl.new3 (X := []) H
theorem send_in {t : Tau} {L : Lg} {R : List (Nat × Nd)} {s : PySem.Str} {a : Ac} (H : Hl t.st (lgH L ++ R)) (ha : al L.accs s = some a) (n c : Int) (hx : L.accs.length < 1000000) (hl : a.sent.length < 1000000) :
    ∃ t' l r, d_Ledger_send [.fr (.ptr L.pl), .fr (.str s), .fr (.int n), .fr (.int c)] (some t) = .ok .non (some t') ∧ TS1 t t' ∧ L.accs = l ++ (s, a) :: r ∧ (∀ p ∈ l, p.1 ≠ s) ∧ Hl t'.st (lgH (setAc L l r s { a with sent := aput a.sent n (g0 a.sent n + c) }) ++ R) := by
  obtain ⟨l, r, e, hl2⟩ := al_split ha
  -- behind the new account
  have H0 : Hl (stX t (ndsA t.st.length)).st (lgH L ++ R) := H.grow _
  generalize hu : stX t (ndsA t.st.length) = u at H0
  have h := lgAt_of H
  have h' := lgAt_of H0
  have o := objAt_o h.o
  have A := h'.a s a ha
  have ao := objAt_o A.o
  have l1 := fg_accs L
  have l2 := fa_sent a
  have d1 := isDct_K h.x
  have d2 := isDct_K A.s
  have k2 := look_i (k := n) A.s
  have sd := setd_s_in (z := .ptr t.st.length) h'.x ha (by rw [sizeLine_eq]; omega)
  have pt := put_i (k := n) (v := g0 a.sent n + c) A.s rfl (by rw [sizeLine_eq]; omega)
  have gg : ((al a.sent n).map DD.int).getD (.int 0) = .int (g0 a.sent n) := getD_map
  have mk : dMkSN 1 0 0 "Account" d_AccountD_initD (pickL [] []) dpNil dpNil [some (.fr (.ptr L.pl)), some (.fr (.str s)), some (.fr (.int n)), some (.fr (.int c)), none] (some t) = .ok (.ptr t.st.length) (some u) :=
    mkSN_ok (as := []) (bs := []) (τ1 := some t) (τ2 := some t) rfl rfl rfl rfl (by rw [mkS_ok, if_pos (show (pickL [] [] [] [] : List PV).length + 1 = 1 from rfl)]; show eMkR (d_AccountD_initD [.fr (.ptr t.st.length)] _) _ = _; rw [init_acc, hu]; rfl)
  rw [← setAc_self e] at H0
  refine ⟨_, l, r, ?_, (show TS1 t u from by rw [← hu]; exact TS1.stX).trans TS1.put, e, hl2, set_sent H0⟩
  unfold apD at sd
  generalize lgF L = FS at *
  generalize acF a = FA at *
  simp (disch := first | omega | (simp <;> omega) | fail) [if_pos, d_Ledger_send, b_Ledger_send, b_Ledger_send_1, ev_body, startP, List.replicate, eSFld_at o, eSFld_at ao, l1, l2, d1, d2, mk, sd, k2, gg, pt]
def addAc (L : Lg) (s : PySem.Str) (a : Ac) : Lg := { L with accs := L.accs ++ [(s, a)] }
theorem lgH_add {L : Lg} {s : PySem.Str} {a : Ac} {R : List (Nat × Nd)} :
    lgH (addAc L s a) ++ R = ((L.pl, .obj "Ledger" (lgF L)) :: (L.pp, .dK (iD DD.int L.prices)) :: (L.px, .dK (sD apD (L.accs ++ [(s, a)]))) :: L.accs.flatMap fun p => acH p.2) ++ (acH a ++ R) := by
  unfold lgH addAc
  simp only [List.flatMap_append, List.flatMap_cons, List.flatMap_nil, List.append_nil, List.cons_append, List.append_assoc]
  rfl
theorem send_new {t : Tau} {L : Lg} {R : List (Nat × Nd)} {s : PySem.Str} (H : Hl t.st (lgH L ++ R)) (ha : al L.accs s = none) (n c : Int) (hx : L.accs.length < 1000000) :
    ∃ t' a, d_Ledger_send [.fr (.ptr L.pl), .fr (.str s), .fr (.int n), .fr (.int c)] (some t) = .ok .non (some t') ∧ TS1 t t' ∧ a.sent = [(n, c)] ∧ a.came = [] ∧ a.paid = 0 ∧ Hl t'.st (lgH (addAc L s a) ++ R) := by
  have h := lgAt_of H
  have o := objAt_o h.o
  have l1 := fg_accs L
  have d1 := isDct_K h.x
  -- the new account, and the dict that has it
  have H0 : Hl (stX t (ndsA t.st.length)).st (((L.pl, Nd.obj "Ledger" (lgF L)) :: (L.pp, .dK (iD DD.int L.prices)) :: (L.px, .dK (sD apD L.accs)) :: L.accs.flatMap fun p => acH p.2) ++ (acH (newA t.st.length) ++ R)) := by
    have := Hl.new3 (a := .obj "Account" (acF (newA t.st.length))) (b := .dK []) (c := .dK []) H
    exact this
  generalize hu : stX t (ndsA t.st.length) = u at H0
  have hpx : u.st[L.px]? = some (.dK (sD apD L.accs)) := H0.g (L.px, _) (by simp)
  have sd := setd_s_new (v := newA t.st.length) (z := .ptr t.st.length) hpx ha rfl (by rw [sizeLine_eq]; omega)
  have H1 : Hl (putSt u L.px (.dK (sD apD (L.accs ++ [(s, newA t.st.length)])))).st (lgH (addAc L s (newA t.st.length)) ++ R) := by
    rw [lgH_add]
    exact Hl.set (X := [(L.pl, _), (L.pp, _)]) (by exact H0)
  generalize hw : putSt u L.px (.dK (sD apD (L.accs ++ [(s, newA t.st.length)]))) = w at *
  have h1 := lgAt_of H1
  have hal : al (addAc L s (newA t.st.length)).accs s = some (newA t.st.length) := al_mid (r := []) (fun p hp z => al_none.mp ha (List.mem_map.mpr ⟨p, hp, z⟩))
  have A := h1.a s _ hal
  have ao := objAt_o A.o
  have l2 := fa_sent (newA t.st.length)
  have d2 := isDct_K A.s
  have k2 := look_i (k := n) A.s
  have pt := put_i (k := n) (v := c) A.s rfl (by rw [sizeLine_eq]; show 0 < _; omega)
  have gg : ((al (newA t.st.length).sent n).map DD.int).getD (.int 0) = .int 0 := rfl
  have mk : dMkSN 1 0 0 "Account" d_AccountD_initD (pickL [] []) dpNil dpNil [some (.fr (.ptr L.pl)), some (.fr (.str s)), some (.fr (.int n)), some (.fr (.int c)), none] (some t) = .ok (.ptr t.st.length) (some u) :=
    mkSN_ok (as := []) (bs := []) (τ1 := some t) (τ2 := some t) rfl rfl rfl rfl (by rw [mkS_ok, if_pos (show (pickL [] [] [] [] : List PV).length + 1 = 1 from rfl)]; show eMkR (d_AccountD_initD [.fr (.ptr t.st.length)] _) _ = _; rw [init_acc, hu]; rfl)
  have tsu : TS1 t u := by rw [← hu]; exact TS1.stX
  have tsw : TS1 u w := by rw [← hw]; exact TS1.put
  have H2 : Hl w.st (lgH (setAc L L.accs [] s (newA t.st.length)) ++ R) := H1
  have H3 := set_sent (xs := aput (newA t.st.length).sent n c) H2
  refine ⟨_, { newA t.st.length with sent := aput (newA t.st.length).sent n c }, ?_, (tsu.trans tsw).trans TS1.put, rfl, rfl, rfl, H3⟩
  · have e1 : (newA t.st.length).pa = t.st.length := rfl
    rw [e1] at ao
    generalize lgF L = FS at *
    generalize acF (newA t.st.length) = FA at *
    simp (disch := first | omega | (simp <;> omega) | fail) [if_pos, d_Ledger_send, b_Ledger_send, b_Ledger_send_1, ev_body, startP, List.replicate, eSFld_at o, eSFld_at ao, l1, l2, d1, d2, mk, sd, k2, gg, pt]
structure Nt where
  q : Nat
  l : List (Int × Int)
structure Bk where
  qp : Nat
  qs : Nat
  qc : Nat
  qd : Nat
  price : Int
  free : Int
  prices : List (Int × Int)
  sent : List (PySem.Str × Nt)
  came : List ((PySem.Str × Int) × Int)
  paid : List (PySem.Str × Int)
def ntD (a : Nt) : DD := .ptr a.q
def kf2 (p : PySem.Str × Int) : List Key := [.inr p.1, .inl p.2]
def kd2 (p : PySem.Str × Int) : DD := .tup [.str p.1, .int p.2]
theorem kt2 : KeyT kf2 kd2 := ⟨fun a b h => by
  unfold kf2 at h
  simp only [List.cons.injEq, Sum.inr.injEq, Sum.inl.injEq, and_true] at h
  exact Prod.ext h.1 h.2, fun a => ⟨[.str a.1, .int a.2], rfl, rfl⟩⟩
def bkH (B : Bk) : List (Nat × Nd) := (B.qp, .dK (iD DD.int B.prices)) :: (B.qs, .dK (sD ntD B.sent)) :: (B.qc, .dT (ad kf2 DD.int B.came)) :: (B.qd, .dK (sD DD.int B.paid)) :: B.sent.flatMap fun p => [(p.2.q, Nd.dK (iD DD.int p.2.l))]
structure BkAt (t : Tau) (B : Bk) : Prop where
  p : t.st[B.qp]? = some (.dK (iD DD.int B.prices))
  s : t.st[B.qs]? = some (.dK (sD ntD B.sent))
  c : t.st[B.qc]? = some (.dT (ad kf2 DD.int B.came))
  d : t.st[B.qd]? = some (.dK (sD DD.int B.paid))
  a : ∀ s a, al B.sent s = some a → t.st[a.q]? = some (.dK (iD DD.int a.l))
theorem bkAt_of {t : Tau} {B : Bk} {h : List (Nat × Nd)} (H : Hl t.st h) (m : ∀ p ∈ bkH B, p ∈ h) : BkAt t B :=
  ⟨H.g (B.qp, _) (m _ (by simp [bkH])), H.g (B.qs, _) (m _ (by simp [bkH])), H.g (B.qc, _) (m _ (by simp [bkH])), H.g (B.qd, _) (m _ (by simp [bkH])), fun s a e => H.g (a.q, _) (m _ (by
    have := al_some e
    unfold bkH
    simp only [List.mem_cons, List.mem_flatMap]
    exact .inr (.inr (.inr (.inr ⟨_, this, by simp⟩)))))⟩
structure BD (kvs : List (Key × DD)) (B : Bk) : Prop where
  pr : valD kvs (.inr (Str.ofString "price")) = some (.int B.price)
  fr : valD kvs (.inr (Str.ofString "free")) = some (.int B.free)
  ps : valD kvs (.inr (Str.ofString "prices")) = some (.ptr B.qp)
  st : valD kvs (.inr (Str.ofString "sent")) = some (.ptr B.qs)
  cm : valD kvs (.inr (Str.ofString "came")) = some (.ptr B.qc)
  pd : valD kvs (.inr (Str.ofString "paid")) = some (.ptr B.qd)
theorem fold_pick (ps : List (Int × Int)) (n : Int) : ∀ (S : List Int) (d : Int), S.Pairwise (· ≤ ·) → S.foldl (fun f k => if k ≤ n then g0 ps k else f) d = pickP d ps (S.filter fun a => decide (a ≤ n))
  | [], d, _ => rfl
  | k :: S, d, h => by
    rw [List.pairwise_cons] at h
    have ih := fold_pick ps n S
    rw [List.foldl_cons]
    by_cases hk : k ≤ n
    · rw [if_pos hk, ih _ h.2, List.filter_cons_of_pos (by simpa using hk)]
      cases hS : S.filter (fun a => decide (a ≤ n)) with
      | nil => rfl
      | cons j js =>
        have hj : j ∈ S := (List.mem_filter.mp (by rw [hS]; exact List.mem_cons_self)).1
        have := h.1 j hj
        show g0 ps (maxL j js) = g0 ps (maxL (max k j) js)
        rw [show max k j = j from by omega]
    · rw [if_neg hk, ih _ h.2, List.filter_cons_of_neg (by simpa using hk)]
theorem maxL_top {k : Int} {ks : List Int} {m : Int} (h1 : m ∈ k :: ks) (h2 : ∀ x ∈ k :: ks, x ≤ m) : maxL k ks = m := by
  have a := maxL_mem ks k
  obtain ⟨_, b, c⟩ := maxL_max k ks
  have d := h2 _ a
  have e : m ≤ maxL k ks := by
    rcases List.mem_cons.mp h1 with rfl | h
    · exact b
    · exact c _ h
  omega
theorem pick_perm {d : Int} {ps qs : List (Int × Int)} {ks js : List Int} (h : ks.Perm js) (e : ∀ n, al ps n = al qs n) : pickP d ps ks = pickP d qs js := by
  have eg : ∀ n, g0 ps n = g0 qs n := fun n => by unfold g0; rw [e]
  cases ks with
  | nil =>
    have := h.length_eq
    cases js with
    | nil => rfl
    | cons j js => cases this
  | cons k ks =>
    cases js with
    | nil => exact absurd h.length_eq (by simp)
    | cons j js =>
      show g0 ps (maxL k ks) = g0 qs (maxL j js)
      rw [eg]
      congr 1
      obtain ⟨_, b, c⟩ := maxL_max j js
      exact maxL_top (h.mem_iff.mpr (maxL_mem js j)) fun x hx => by
        rcases List.mem_cons.mp (h.mem_iff.mp hx) with rfl | hx
        · exact b
        · exact c _ hx
theorem keys_perm {κ α : Type} [DecidableEq κ] {xs ys : List (κ × α)} (h1 : (xs.map (·.1)).Nodup) (h2 : (ys.map (·.1)).Nodup) (e : ∀ k, (al xs k).isSome = (al ys k).isSome) : (xs.map (·.1)).Perm (ys.map (·.1)) := by
  refine (List.perm_ext_iff_of_nodup h1 h2).mpr fun k => ?_
  have m : ∀ zs : List (κ × α), k ∈ zs.map (·.1) ↔ (al zs k).isSome = true := fun zs => by
    have := al_none (k := k) (xs := zs)
    cases hz : al zs k with
    | none => rw [hz] at this; simpa using this.mp rfl
    | some v => rw [hz] at this; simp only [reduceCtorEq, false_iff, Decidable.not_not] at this; simpa using this
  rw [m, m, e]
theorem sortI_perm2 {ns ms : List Int} (h : ns.Perm ms) : sortI ns = sortI ms := sorted_is ((sortI_perm ns).trans h) (sortI_sorted ns)
def priceB (B : Bk) (n : Int) : Int := (sortI (B.prices.map (·.1))).foldl (fun f k => if k ≤ n then g0 B.prices k else f) B.price
theorem priceB_pick (B : Bk) (n : Int) : priceB B n = pickP B.price B.prices (leK B.prices n) := by
  unfold priceB
  rw [fold_pick _ _ _ _ (sortI_sorted _)]
  exact pick_perm ((sortI_perm _).filter _) fun _ => rfl
theorem bprice_ok {t : Tau} {B : Bk} {kvs : List (Key × DD)} (h : BkAt t B) (b : BD kvs B) (hl : B.prices.length < 64) (n : Int) : d__law_price [.fr (.dic kvs), .fr (.int n)] (some t) = .ok (.int (priceB B n)) (some t) := by
  have b1 := b.pr
  have b2 := b.ps
  have so := sort_i h.p hl
  have lk : ∀ k, sdlook t B.qp (.int k) = some ((al B.prices k).map DD.int) := fun k => look_i h.p
  have hm : ∀ k ∈ sortI (B.prices.map (·.1)), ∃ v, al B.prices k = some v := fun k hk => by
    cases e : al B.prices k with
    | some v => exact ⟨v, rfl⟩
    | none => exact (al_none.mp e ((sortI_perm _).mem_iff.mp hk)).elim
  obtain ⟨ρ', τ', e, q3, rfl, rfl⟩ := forL_inv (t := .nm 3) (δ := b__law_price_L1) (ds := (sortI (B.prices.map (·.1))).map DD.int) (ρ := [some (.fr (.dic kvs)), some (.fr (.int n)), some (.fr (.int B.price)), none]) (τ := some t)
    (fun i ρ τ => ∃ q3, τ = some t ∧ ρ = [some (.fr (.dic kvs)), some (.fr (.int n)), some (.fr (.int (((sortI (B.prices.map (·.1))).take i).foldl (fun f k => if k ≤ n then g0 B.prices k else f) B.price))), q3])
    ⟨none, rfl, rfl⟩ (by
      rintro i d ρ τ hd ⟨q3, rfl, rfl⟩
      rw [List.getElem?_map] at hd
      obtain ⟨k, hx, rfl⟩ := Option.map_eq_some_iff.mp hd
      obtain ⟨v, hv⟩ := hm k (List.mem_of_getElem? hx)
      have lk1 := lk k
      rw [hv] at lk1
      have gv : g0 B.prices k = v := by unfold g0; rw [hv]; rfl
      rw [List.take_add_one, hx, Option.toList_some, List.foldl_append, List.foldl_cons, List.foldl_nil, gv]
      generalize ((sortI (B.prices.map (·.1))).take i).foldl (fun f k => if k ≤ n then g0 B.prices k else f) B.price = f
      refine ⟨_, tgF_nm, _, _, .inl ?_, some (.fr (.int k)), rfl, rfl⟩
      by_cases hk : k ≤ n
      · simp (disch := first | omega | (simp <;> omega) | fail) [if_pos, b__law_price_L1, hk, b2, lk1]
      · simp (disch := first | omega | (simp <;> omega) | fail) [if_pos, b__law_price_L1, hk])
  rw [List.length_map, List.take_length] at e
  change _ = R.ok (Ct.nx [_, _, some (PV.fr (DD.int (priceB B n))), q3]) _ at e
  generalize priceB B n = P at *
  generalize (sortI (B.prices.map (·.1))).map DD.int = SS at *
  simp (disch := first | omega | (simp <;> omega) | fail) [if_pos, d__law_price, b__law_price, b__law_price_1, b__law_price_2, ev_body, startP, List.replicate, b1, b2, so, e]
def rowB (B : Bk) (s : PySem.Str) (l : List (Int × Int)) (n : Int) : Int × Int × Int × Int :=
  (n, g0 l n, (al B.came (s, n)).getD 0, ((g0 l n - (al B.came (s, n)).getD 0) - (g0 l n - (al B.came (s, n)).getD 0).fdiv B.free) * priceB B n)
def rowsB (B : Bk) (s : PySem.Str) (l : List (Int × Int)) : List (Int × Int × Int × Int) := (sortI (l.map (·.1))).map (rowB B s l)
theorem baccount_ok {t : Tau} {B : Bk} {kvs : List (Key × DD)} {s : PySem.Str} {a : Nt} (h : BkAt t B) (b : BD kvs B) (ha : al B.sent s = some a) (hl : B.prices.length < 64) (hs : a.l.length < 64) (hf : 0 < B.free ∧ B.free < 1073741824)
    (hc : ∀ n, 0 ≤ g0 a.l n - (al B.came (s, n)).getD 0 ∧ g0 a.l n - (al B.came (s, n)).getD 0 < 1152921504606846976) : d__law_account [.fr (.dic kvs), .fr (.str s)] (some t) = .ok (.lst ((rowsB B s a.l).map i4)) (some t) := by
  have b1 := b.fr
  have b2 := b.st
  have b3 := b.cm
  have la := look_s (k := s) h.s
  rw [ha] at la
  have la2 : sdlook t B.qs (.str s) = some (some (.ptr a.q)) := la
  have so := sort_i (h.a s a ha) hs
  have dt := isDct_T h.c
  have len : (sortI (a.l.map (·.1))).length = a.l.length := by rw [(sortI_perm _).length_eq, List.length_map]
  obtain ⟨ρ', τ', e, q3, q4, q5, q6, rfl, rfl⟩ := forL_inv (t := .nm 3) (δ := b__law_account_L1) (ds := (sortI (a.l.map (·.1))).map DD.int) (ρ := [some (.fr (.dic kvs)), some (.fr (.str s)), some (.ow (.lst [])), none, none, none, none]) (τ := some t)
    (fun i ρ τ => ∃ q3 q4 q5 q6, τ = some t ∧ ρ = [some (.fr (.dic kvs)), some (.fr (.str s)), some (.ow (.lst (((sortI (a.l.map (·.1))).take i).map fun n => i4 (rowB B s a.l n)))), q3, q4, q5, q6])
    ⟨none, none, none, none, rfl, rfl⟩ (by
      rintro i d ρ τ hd ⟨q3, q4, q5, q6, rfl, rfl⟩
      rw [List.getElem?_map] at hd
      obtain ⟨n, hx, rfl⟩ := Option.map_eq_some_iff.mp hd
      have hm : n ∈ a.l.map (·.1) := (sortI_perm _).mem_iff.mp (List.mem_of_getElem? hx)
      obtain ⟨v, hv⟩ : ∃ v, al a.l n = some v := by
        cases e : al a.l n with
        | some v => exact ⟨v, rfl⟩
        | none => exact (al_none.mp e hm).elim
      have k1 := look_i (k := n) (h.a s a ha)
      rw [hv] at k1
      have gv : g0 a.l n = v := by unfold g0; rw [hv]; rfl
      have k2 := look_t (k := (s, n)) kt2 h.c
      have k3 : sdlook t B.qc (.tup [.str s, .int n]) = some ((al B.came (s, n)).map DD.int) := k2
      have gg : ((al B.came (s, n)).map DD.int).getD (.int 0) = .int ((al B.came (s, n)).getD 0) := getD_map
      have pr := bprice_ok h b hl n
      have c0 := hc n
      rw [gv] at c0
      have tk : ((sortI (a.l.map (·.1))).take (i + 1)).map (fun n => i4 (rowB B s a.l n)) = ((sortI (a.l.map (·.1))).take i).map (fun n => i4 (rowB B s a.l n)) ++ [i4 (rowB B s a.l n)] := by
        rw [List.take_add_one, hx, List.map_append]
        rfl
      have er : i4 (rowB B s a.l n) = .tup [.int n, .int v, .int ((al B.came (s, n)).getD 0), .int (((v - (al B.came (s, n)).getD 0) - (v - (al B.came (s, n)).getD 0).fdiv B.free) * priceB B n)] := by unfold rowB i4; rw [gv]
      have hln : (((sortI (a.l.map (·.1))).take i).map fun n => i4 (rowB B s a.l n)).length < 16777216 := by rw [List.length_map, List.length_take]; omega
      generalize (al B.came (s, n)).getD 0 = c at *
      have dn : CDivN (v - c) B.free := ⟨by omega, by omega⟩
      have fd : (v - c).fdiv B.free = (v - c) / B.free := Int.fdiv_eq_ediv_of_nonneg _ (by omega)
      have q0 : 0 ≤ (v - c) / B.free := Int.ediv_nonneg c0.1 (by omega)
      have q1 : (v - c) / B.free ≤ v - c := Int.ediv_le_self _ c0.1
      have cm : CMul (v - c - (v - c).fdiv B.free) (priceB B n) := .inl ⟨by rw [fd]; omega, by rw [fd]; omega⟩
      refine ⟨_, tgF_nm, _, _, .inl ?_, some (.fr (.int n)), some (.fr (.int v)), some (.fr (.int c)), some (.fr (.int (v - c))), rfl, rfl⟩
      rw [tk, er]
      generalize ((sortI (a.l.map (·.1))).take i).map (fun n => i4 (rowB B s a.l n)) = ACC at *
      simp (disch := first | omega | (simp <;> omega) | fail) [if_pos, b__law_account_L1, b__law_account_L1_1, b__law_account_L1_2, b1, b2, b3, la2, k1, dt, k3, gg, dn, cm, pr, hln])
  rw [List.length_map, List.take_length] at e
  have er : (rowsB B s a.l).map i4 = (sortI (a.l.map (·.1))).map fun n => i4 (rowB B s a.l n) := by unfold rowsB; rw [List.map_map]; rfl
  rw [er]
  generalize (sortI (a.l.map (·.1))).map (fun n => i4 (rowB B s a.l n)) = RR at *
  generalize (sortI (a.l.map (·.1))).map DD.int = SS at *
  simp (disch := first | omega | (simp <;> omega) | fail) [if_pos, d__law_account, b__law_account, b__law_account_1, b__law_account_2, ev_body, startP, List.replicate, b2, la2, so, e]
def owesB (B : Bk) (s : PySem.Str) (l : List (Int × Int)) : Int := ((rowsB B s l).map fun p => p.2.2.2).sum - (al B.paid s).getD 0
theorem bowes_ok {t : Tau} {B : Bk} {kvs : List (Key × DD)} {s : PySem.Str} {a : Nt} (h : BkAt t B) (b : BD kvs B) (ha : al B.sent s = some a) (hl : B.prices.length < 64) (hs : a.l.length < 64) (hf : 0 < B.free ∧ B.free < 1073741824)
    (hc : ∀ n, 0 ≤ g0 a.l n - (al B.came (s, n)).getD 0 ∧ g0 a.l n - (al B.came (s, n)).getD 0 < 1152921504606846976) : d__law_owes [.fr (.dic kvs), .fr (.str s)] (some t) = .ok (.int (owesB B s a.l)) (some t) := by
  have b1 := b.pd
  have ac := baccount_ok h b ha hl hs hf hc
  have d1 := isDct_K h.d
  have k1 := look_s (k := s) h.d
  have gg : ((al B.paid s).map DD.int).getD (.int 0) = .int ((al B.paid s).getD 0) := getD_map
  have len : (rowsB B s a.l).length = a.l.length := by unfold rowsB; rw [List.length_map, (sortI_perm _).length_eq, List.length_map]
  have lc : lcL (.nm 2) dYes (dOp gIxT (dV 2) (dC (.int 3))) [some (.fr (.dic kvs)), some (.fr (.str s)), none] ((rowsB B s a.l).map i4) (some t) = .ok (((rowsB B s a.l).map fun p => p.2.2.2).map DD.int) (some t) := by
    rw [List.map_map]
    refine lcL_mapOf fun p hp => ⟨_, tgF_nm, ?_⟩
    have e4 : ∀ a b c d : DD, L2.atI [a, b, c, d] 3 = some d := fun a b c d => rfl
    unfold i4
    simp (disch := first | omega | (simp <;> omega) | fail) [if_pos, e4]
  have hl3 : ((rowsB B s a.l).map i4).length ≤ 16777216 := by rw [List.length_map]; omega
  have sm : gSum (.lst (((rowsB B s a.l).map fun p => p.2.2.2).map DD.int)) = some (.int ((rowsB B s a.l).map fun p => p.2.2.2).sum) := by
    rw [gSum_eq, ints?_map]
    rfl
  unfold owesB
  generalize (rowsB B s a.l).map i4 = RR at *
  generalize ((rowsB B s a.l).map fun p => p.2.2.2).sum = SU at *
  generalize ((rowsB B s a.l).map fun p => p.2.2.2).map DD.int = NN at *
  simp (disch := first | omega | (simp <;> omega) | fail) [if_pos, d__law_owes, b__law_owes, ev_body, startP, List.replicate, ac, hl3, lc, sm, b1, d1, k1, gg]
theorem bat_of {t : Tau} {B : Bk} {R : List (Nat × Nd)} (H : Hl t.st (bkH B ++ R)) : BkAt t B := bkAt_of H fun p hp => List.mem_append_left _ hp
theorem bput_price {t : Tau} {B : Bk} {R : List (Nat × Nd)} (H : Hl t.st (bkH B ++ R)) (hl : B.prices.length < 1000000) (n p : Int) : ∃ t', sdput t B.qp (.int n) (.int p) = some t' ∧ TS1 t t' ∧ Hl t'.st (bkH { B with prices := aput B.prices n p } ++ R) :=
  ⟨_, put_i (v := p) (bat_of H).p rfl (by rw [sizeLine_eq]; omega), TS1.put, Hl.set (X := []) (by exact H)⟩
theorem bput_came {t : Tau} {B : Bk} {R : List (Nat × Nd)} (H : Hl t.st (bkH B ++ R)) (hl : B.came.length < 1000000) (s : PySem.Str) (n p : Int) : ∃ t', sdput t B.qc (.tup [.str s, .int n]) (.int p) = some t' ∧ TS1 t t' ∧ Hl t'.st (bkH { B with came := aput B.came (s, n) p } ++ R) :=
  ⟨_, put_t (k := (s, n)) (v := p) kt2 (bat_of H).c rfl (by rw [sizeLine_eq]; omega), TS1.put, Hl.set (X := [(B.qp, _), (B.qs, _)]) (by exact H)⟩
theorem bput_paid {t : Tau} {B : Bk} {R : List (Nat × Nd)} (H : Hl t.st (bkH B ++ R)) (hl : B.paid.length < 1000000) (s : PySem.Str) (p : Int) : ∃ t', sdput t B.qd (.str s) (.int p) = some t' ∧ TS1 t t' ∧ Hl t'.st (bkH { B with paid := aput B.paid s p } ++ R) :=
  ⟨_, put_s (v := p) (bat_of H).d rfl (by rw [sizeLine_eq]; omega), TS1.put, Hl.set (X := [(B.qp, _), (B.qs, _), (B.qc, _)]) (by exact H)⟩
def setNt (B : Bk) (l r : List (PySem.Str × Nt)) (s : PySem.Str) (a : Nt) : Bk := { B with sent := l ++ (s, a) :: r }
theorem setNt_self {B : Bk} {l r : List (PySem.Str × Nt)} {s : PySem.Str} {a : Nt} (e : B.sent = l ++ (s, a) :: r) : setNt B l r s a = B := by
  unfold setNt
  rw [← e]
theorem bput_nt {t : Tau} {B : Bk} {R : List (Nat × Nd)} {l r : List (PySem.Str × Nt)} {s : PySem.Str} {a : Nt} (H : Hl t.st (bkH (setNt B l r s a) ++ R)) (hn : ∀ p ∈ l, p.1 ≠ s) (hl : a.l.length < 1000000) (n p : Int) :
    ∃ t', sdput t a.q (.int n) (.int p) = some t' ∧ TS1 t t' ∧ Hl t'.st (bkH (setNt B l r s { a with l := aput a.l n p }) ++ R) := by
  have hal : al (setNt B l r s a).sent s = some a := by
    show al (l ++ (s, a) :: r) s = some a
    clear H
    induction l with
    | nil => rw [List.nil_append, al_cons, if_pos rfl]
    | cons p l ih => rw [List.cons_append, al_cons, if_neg (hn p List.mem_cons_self), ih fun q hq => hn q (List.mem_cons_of_mem _ hq)]
  have at1 := (bat_of H).a s a hal
  refine ⟨_, put_i (v := p) at1 rfl (by rw [sizeLine_eq]; omega), TS1.put, ?_⟩
  have e : ∀ b : Nt, b.q = a.q → bkH (setNt B l r s b) ++ R = ((B.qp, .dK (iD DD.int B.prices)) :: (B.qs, .dK (sD ntD (l ++ (s, a) :: r))) :: (B.qc, .dT (ad kf2 DD.int B.came)) :: (B.qd, .dK (sD DD.int B.paid)) :: l.flatMap fun p => [(p.2.q, Nd.dK (iD DD.int p.2.l))]) ++ (a.q, .dK (iD DD.int b.l)) :: ((r.flatMap fun p => [(p.2.q, Nd.dK (iD DD.int p.2.l))]) ++ R) := fun b hb => by
    have e2 : sD ntD (l ++ (s, b) :: r) = sD ntD (l ++ (s, a) :: r) := by
      unfold sD ad
      rw [List.map_append, List.map_append, List.map_cons, List.map_cons]
      unfold ntD
      dsimp only
      rw [hb]
    unfold bkH setNt
    dsimp only
    rw [e2]
    simp only [List.flatMap_append, List.flatMap_cons, List.cons_append, List.append_assoc, List.nil_append, hb]
  rw [e a rfl] at H
  rw [e { a with l := aput a.l n p } rfl]
  exact Hl.set H
theorem bsent_in {t : Tau} {B : Bk} {R : List (Nat × Nd)} {s : PySem.Str} {a : Nt} (H : Hl t.st (bkH B ++ R)) (ha : al B.sent s = some a) (hl : B.sent.length < 1000000) :
    sdset (pushSt t (.dK [])) B.qs (.str s) (.ptr t.st.length) = .ok (.ptr a.q) (some (pushSt t (.dK []))) ∧ Hl (pushSt t (.dK [])).st (bkH B ++ R) := by
  have H0 : Hl (pushSt t (.dK [])).st (bkH B ++ R) := H.grow _
  exact ⟨setd_s_in (vf := ntD) (bat_of H0).s ha (by rw [sizeLine_eq]; omega), H0⟩
theorem bsent_new {t : Tau} {B : Bk} {R : List (Nat × Nd)} {s : PySem.Str} (H : Hl t.st (bkH B ++ R)) (ha : al B.sent s = none) (hl : B.sent.length < 1000000) :
    ∃ t', sdset (pushSt t (.dK [])) B.qs (.str s) (.ptr t.st.length) = .ok (.ptr t.st.length) (some t') ∧ TS1 t t' ∧ Hl t'.st (bkH (setNt B B.sent [] s ⟨t.st.length, []⟩) ++ R) := by
  have e0 : bkH B ++ R = ((B.qp, .dK (iD DD.int B.prices)) :: (B.qs, .dK (sD ntD B.sent)) :: (B.qc, .dT (ad kf2 DD.int B.came)) :: (B.qd, .dK (sD DD.int B.paid)) :: B.sent.flatMap fun p => [(p.2.q, Nd.dK (iD DD.int p.2.l))]) ++ R := rfl
  rw [e0] at H
  have H0 : Hl (pushSt t (.dK [])).st _ := Hl.new (nd := .dK []) H
  have hqs : (pushSt t (.dK [])).st[B.qs]? = some (.dK (sD ntD B.sent)) := H0.g (B.qs, _) (by simp)
  refine ⟨_, setd_s_new (vf := ntD) (v := ⟨t.st.length, []⟩) hqs ha rfl (by rw [sizeLine_eq]; omega), TS1.push.trans TS1.put, ?_⟩
  have e : bkH (setNt B B.sent [] s ⟨t.st.length, []⟩) ++ R = ((B.qp, .dK (iD DD.int B.prices)) :: (B.qs, .dK (sD ntD (B.sent ++ [(s, ⟨t.st.length, []⟩)]))) :: (B.qc, .dT (ad kf2 DD.int B.came)) :: (B.qd, .dK (sD DD.int B.paid)) :: B.sent.flatMap fun p => [(p.2.q, Nd.dK (iD DD.int p.2.l))]) ++ (t.st.length, .dK []) :: R := by
    unfold bkH setNt
    simp only [List.flatMap_append, List.flatMap_cons, List.flatMap_nil, List.append_nil, List.cons_append, List.append_assoc, List.nil_append]
    rfl
  rw [e]
  exact Hl.set (X := [(B.qp, _)]) (by exact H0)
structure LB1 (L : Lg) (B : Bk) (s : PySem.Str) (a : Ac) (l : List (Int × Int)) : Prop where
  pr : L.price = B.price
  fr : L.free = B.free
  ps : ∀ n, al L.prices n = al B.prices n
  pn : (L.prices.map (·.1)).Nodup ∧ (B.prices.map (·.1)).Nodup
  st : ∀ n, al a.sent n = al l n
  sn : (a.sent.map (·.1)).Nodup ∧ (l.map (·.1)).Nodup
  cm : ∀ n, g0 a.came n = (al B.came (s, n)).getD 0
  pd : a.paid = (al B.paid s).getD 0
section
variable {L : Lg} {B : Bk} {s : PySem.Str} {a : Ac} {l : List (Int × Int)}
theorem LB1.price (h : LB1 L B s a l) (n : Int) : priceL L n = priceB B n := by
  rw [priceB_pick]
  unfold priceL
  rw [h.pr]
  exact pick_perm ((keys_perm h.pn.1 h.pn.2 fun k => by rw [h.ps]).filter _) h.ps
theorem LB1.rows (h : LB1 L B s a l) : rowsA L a = rowsB B s l := by
  have e : sortI (a.sent.map (·.1)) = sortI (l.map (·.1)) := sortI_perm2 (keys_perm h.sn.1 h.sn.2 fun k => by rw [h.st])
  unfold rowsA rowsB tellA
  rw [List.map_map, e]
  refine List.map_congr_left fun n _ => ?_
  have e1 : g0 a.sent n = g0 l n := by unfold g0; rw [h.st]
  show (n, g0 a.sent n, g0 a.came n, costL L n (g0 a.sent n - g0 a.came n)) = _
  unfold rowB costL
  rw [e1, h.cm, h.fr, h.price]
end
abbrev Rw := Int × Int × Int
def sentR (s : PySem.Str) (q : Nat) (rows : List Rw) : List (PySem.Str × Nt) := if rows = [] then [] else [(s, ⟨q, rows.map fun p => (p.1, p.2.1)⟩)]
def bkR (B : Bk) (s : PySem.Str) (q : Nat) (rows : List Rw) : Bk := { B with sent := sentR s q rows, came := rows.map fun p => ((s, p.1), p.2.2) }
structure RwOk (K : Int) (rows : List Rw) : Prop where
  b : ∀ p ∈ rows, 0 ≤ p.1 ∧ p.1 < 2 * K ∧ 0 < p.2.1 ∧ p.2.1 ≤ 400 ∧ 0 ≤ p.2.2 ∧ p.2.2 ≤ p.2.1
  n : (rows.map (·.1)).Nodup
theorem al_app {κ α : Type} [DecidableEq κ] {xs : List (κ × α)} {k : κ} {v : α} (h : k ∉ xs.map (·.1)) (k' : κ) : al (xs ++ [(k, v)]) k' = if k' = k then some v else al xs k' := by
  rw [← aput_new (al_none.mpr h)]
  by_cases e : k' = k
  · subst e
    rw [if_pos rfl, al_aput_self]
  · rw [if_neg e, al_aput_ne e]
theorem row_put {t : Tau} {B : Bk} {s : PySem.Str} {q : Nat} {rows : List Rw} {R : List (Nat × Nd)} (H : Hl t.st (bkH (bkR B s q rows) ++ R)) {n a b : Int} (hn : n ∉ rows.map (·.1)) (hl : rows.length ≤ 100) :
    ∃ q' t1 t2 t3, sdset (pushSt t (.dK [])) B.qs (.str s) (.ptr t.st.length) = .ok (.ptr q') (some t1) ∧ sdput t1 q' (.int n) (.int a) = some t2 ∧ sdput t2 B.qc (.tup [.str s, .int n]) (.int b) = some t3 ∧ TS1 t t3 ∧ Hl t3.st (bkH (bkR B s q' (rows ++ [(n, a, b)])) ++ R) := by
  have hcn : (s, n) ∉ (rows.map fun p => ((s, p.1), p.2.2)).map (·.1) := by
    rw [List.map_map]
    intro z
    obtain ⟨p, hp, e⟩ := List.mem_map.mp z
    exact hn (List.mem_map.mpr ⟨p, hp, congrArg Prod.snd e⟩)
  have fin : ∀ (q' : Nat) (t0 t1 : Tau) (l : List (Int × Int)), TS1 t t1 → Hl t1.st (bkH (setNt (bkR B s q rows) [] [] s ⟨q', l⟩) ++ R) → l = rows.map (fun p => (p.1, p.2.1)) → ∃ t2 t3, sdput t1 q' (.int n) (.int a) = some t2 ∧ sdput t2 B.qc (.tup [.str s, .int n]) (.int b) = some t3 ∧ TS1 t t3 ∧ Hl t3.st (bkH (bkR B s q' (rows ++ [(n, a, b)])) ++ R) := by
    rintro q' t0 t1 l s1 H1 rfl
    obtain ⟨t2, e2, s2, H2⟩ := bput_nt (a := ⟨q', rows.map fun p => (p.1, p.2.1)⟩) H1 (fun _ h => (nomatch h)) (by show (rows.map _).length < _; rw [List.length_map]; omega) n a
    obtain ⟨t3, e3, s3, H3⟩ := bput_came H2 (by show (rows.map _).length < _; rw [List.length_map]; omega) s n b
    refine ⟨t2, t3, e2, e3, (s1.trans s2).trans s3, ?_⟩
    have ea : aput (rows.map fun p : Rw => (p.1, p.2.1)) n a = (rows ++ [(n, a, b)]).map fun p : Rw => (p.1, p.2.1) := by
      rw [aput_new (al_none.mpr (by rw [List.map_map]; exact hn)), List.map_append]
      rfl
    have eb : aput (rows.map fun p : Rw => ((s, p.1), p.2.2)) (s, n) b = (rows ++ [(n, a, b)]).map fun p : Rw => ((s, p.1), p.2.2) := by
      rw [aput_new (al_none.mpr hcn), List.map_append]
      rfl
    have eB : bkR B s q' (rows ++ [(n, a, b)]) = { setNt (bkR B s q rows) [] [] s ⟨q', aput (rows.map fun p : Rw => (p.1, p.2.1)) n a⟩ with came := aput (rows.map fun p : Rw => ((s, p.1), p.2.2)) (s, n) b } := by
      rw [ea, eb]
      unfold bkR sentR setNt
      rw [if_neg (by simp)]
      rfl
    rw [eB]
    exact H3
  by_cases h0 : rows = []
  · subst h0
    obtain ⟨t1, e1, s1, H1⟩ := bsent_new (s := s) H rfl (by show 0 < 1000000; decide)
    obtain ⟨t2, t3, e2, e3, s3, H3⟩ := fin t.st.length t t1 [] s1 H1 rfl
    exact ⟨_, t1, t2, t3, e1, e2, e3, s3, H3⟩
  · have es : (bkR B s q rows).sent = [(s, ⟨q, rows.map fun p => (p.1, p.2.1)⟩)] := by unfold bkR sentR; rw [if_neg h0]
    have hal : al (bkR B s q rows).sent s = some ⟨q, rows.map fun p => (p.1, p.2.1)⟩ := by rw [es, al_cons, if_pos rfl]
    obtain ⟨e1, H1⟩ := bsent_in H hal (by rw [es]; show 1 < 1000000; decide)
    have eq0 : setNt (bkR B s q rows) [] [] s ⟨q, rows.map fun p => (p.1, p.2.1)⟩ = bkR B s q rows := setNt_self es
    rw [← eq0] at H1
    obtain ⟨t2, t3, e2, e3, s3, H3⟩ := fin q t _ _ TS1.push H1 rfl
    exact ⟨_, _, t2, t3, e1, e2, e3, s3, H3⟩
theorem pick5 {a r j : Int} (ha : 0 < a) (hr : 0 ≤ r ∧ r < a + 1) (h0 : 0 ≤ j) (h1 : j < 5) : ∃ v : Int, atI [DD.int 0, .int 0, .int 1, .int a, .int r] j = some (.int v) ∧ 0 ≤ v ∧ v ≤ a := by
  obtain ⟨k, rfl⟩ := Int.eq_ofNat_of_zero_le h0
  have : k = 0 ∨ k = 1 ∨ k = 2 ∨ k = 3 ∨ k = 4 := by omega
  rcases this with rfl | rfl | rfl | rfl | rfl
  · exact ⟨0, rfl, by omega, by omega⟩
  · exact ⟨0, rfl, by omega, by omega⟩
  · exact ⟨1, rfl, by omega, by omega⟩
  · exact ⟨a, rfl, by omega, by omega⟩
  · exact ⟨r, rfl, by omega, by omega⟩
theorem pick3 {a b c : Int} {j : Int} (h0 : 0 ≤ j) (h1 : j < 3) : ∃ v : Int, atI [DD.int a, .int b, .int c] j = some (.int v) ∧ (v = a ∨ v = b ∨ v = c) := by
  obtain ⟨k, rfl⟩ := Int.eq_ofNat_of_zero_le h0
  have : k = 0 ∨ k = 1 ∨ k = 2 := by omega
  rcases this with rfl | rfl | rfl
  · exact ⟨a, rfl, .inl rfl⟩
  · exact ⟨b, rfl, .inr (.inl rfl)⟩
  · exact ⟨c, rfl, .inr (.inr rfl)⟩
theorem sent_ok {t : Tau} {N : Nat} {B : Bk} {kvs : List (Key × DD)} {s : PySem.Str} {R : List (Nat × Nd)} (T : Np.Tn N t) (hN : N < 2 ^ 40) (b : BD kvs B) (hs : B.sent = []) (hc : B.came = []) (hf : 2 ≤ B.free ∧ B.free ≤ 32) (H : Hl t.st (bkH B ++ R)) :
    ∃ rows q t', d__law_sent [.tape, .fr (.dic kvs), .fr (.str s)] (some t) = .ok (.lst (rows.map i3)) (some t') ∧ Np.Tn (N + 300) t' ∧ RwOk 10 rows ∧ rows.length ≤ 10 ∧ Hl t'.st (bkH (bkR B s q rows) ++ R) := by
  have b1 := b.fr
  have b2 := b.st
  have b3 := b.cm
  obtain ⟨r0, t0, e0, r00, r01, T0, y_e0⟩ := drw T (by omega) (m := 10) (by decide) (by decide)
  obtain ⟨st0, H0⟩ : ∃ u : Unit, Hl t0.st (bkH (bkR B s 0 []) ++ R) := by
    refine ⟨(), ?_⟩
    have e : bkR B s 0 [] = B := by
      unfold bkR sentR
      rw [if_pos rfl, List.map_nil, ← hs, ← hc]
    rw [e, y_e0]
    exact H
  obtain ⟨M, rfl⟩ := Int.eq_ofNat_of_zero_le r00
  have hM : M ≤ 9 := by omega
  obtain ⟨ρ', τ', e, rows, q, t', q5, q6, q7, q8, rfl, T', H', ro, ln, rfl⟩ := forL_inv (t := .nm 5) (δ := b__law_sent_L1) (ds := rangeD 0 (M + 1)) (ρ := [some .tape, some (.fr (.dic kvs)), some (.fr (.str s)), some (.ow (.lst [])), some (.fr (.int B.free)), none, none, none, none]) (τ := some t0)
    (fun i ρ τ => ∃ rows q t' q5 q6 q7 q8, τ = some t' ∧ Np.Tn (N + 5 + 25 * i) t' ∧ Hl t'.st (bkH (bkR B s q rows) ++ R) ∧ RwOk (i : Int) rows ∧ rows.length ≤ i ∧
      ρ = [some .tape, some (.fr (.dic kvs)), some (.fr (.str s)), some (.ow (.lst (rows.map i3))), some (.fr (.int B.free)), q5, q6, q7, q8])
    ⟨[], 0, t0, none, none, none, none, rfl, T0, H0, ⟨fun _ h => (nomatch h), List.nodup_nil⟩, Nat.le_refl _, rfl⟩ (by
      rintro i d ρ τ hd ⟨rows, q, t', q5, q6, q7, q8, rfl, T', H', ro, ln, rfl⟩
      obtain ⟨hi, rfl⟩ := rangeD_get0 hd
      refine ⟨_, tgF_nm, ?_⟩
      obtain ⟨r6, t6, e6, a6, c6, T6, y_e6⟩ := drw T' (by omega) (m := 6) (by decide) (by decide)
      obtain ⟨r3, t3, e3, a3, c3, T3, y_e3⟩ := drw T6 (by omega) (m := 3) (by decide) (by decide)
      obtain ⟨v, ev, hv⟩ := pick3 (a := 0) (b := 1) (c := B.free - 1) a3 c3
      have cm : CMul B.free r6 := .inl ⟨by omega, by omega⟩
      have H3 : Hl t3.st (bkH (bkR B s q rows) ++ R) := by rw [y_e3, y_e6]; exact H'
      have am0 : 0 ≤ B.free * r6 := Int.mul_nonneg (by omega) a6
      have am1 : B.free * r6 ≤ 32 * 5 := Int.mul_le_mul (by omega) (by omega) a6 (by decide)
      have v0 : 0 ≤ v ∧ v ≤ 31 := by rcases hv with rfl | rfl | rfl <;> omega
      generalize ha : B.free * r6 + v = a at *
      by_cases hp : 0 < a
      · obtain ⟨r5, t5, e5, a5, c5, T5, y_e5⟩ := drw T3 (by omega) (m := a + 1) (by omega) (by omega)
        obtain ⟨rj, tj, ej, aj, cj, Tj, y_ej⟩ := drw T5 (by omega) (m := 5) (by decide) (by decide)
        obtain ⟨w, ew, w0, w1⟩ := pick5 hp ⟨a5, c5⟩ aj cj
        have Hj : Hl tj.st (bkH (bkR B s q rows) ++ R) := by rw [y_ej, y_e5]; exact H3
        have hn : (2 * (i : Int)) ∉ rows.map (·.1) := fun z => by
          obtain ⟨p, hp, e⟩ := List.mem_map.mp z
          have := ro.b p hp
          omega
        obtain ⟨q', u1, u2, u3, f1, f2, f3, fs, Hu⟩ := row_put (a := a) (b := w) Hj hn (by omega)
        have di : isDct tj B.qs = true := isDct_K (bat_of Hj).s
        have cm2 : CMul 2 (i : Int) := .inl ⟨by decide, by decide⟩
        have hln : (rows.map i3).length < 16777216 := by rw [List.length_map]; omega
        have er : (rows ++ [(2 * (i : Int), a, w)]).map i3 = rows.map i3 ++ [.tup [.int (2 * (i : Int)), .int a, .int w]] := by rw [List.map_append]; rfl
        refine ⟨_, some u3, .inl ?_, rows ++ [(2 * (i : Int), a, w)], q', u3, some (.fr (.int i)), some (.fr (.int a)), some (.fr (.int w)), some (.fr (.ptr q')), rfl, (fs.tn Tj).mono (by omega), Hu, ⟨fun p hp2 => ?_, ?_⟩, by rw [List.length_append]; show _ + 1 ≤ _; omega, rfl⟩
        · rw [er]
          generalize rows.map i3 = RR at *
          simp (disch := first | omega | (simp <;> omega) | fail) [if_pos, b__law_sent_L1, b__law_sent_L1_1, e6, e3, ev, cm, ha, hp, e5, ej, ew, b2, b3, di, f1, f2, f3, cm2, hln]
        · rcases List.mem_append.mp hp2 with h | h
          · have := ro.b p h
            omega
          · rw [List.mem_singleton.mp h]
            refine ⟨by show 0 ≤ 2 * (i : Int); omega, by show 2 * (i : Int) < 2 * ((i + 1 : Nat) : Int); omega, hp, by show a ≤ 400; omega, w0, w1⟩
        · rw [List.map_append, List.nodup_append]
          exact ⟨ro.n, by simp, fun x hx y hy z => hn (by
            have h1 : y = 2 * (i : Int) := List.mem_singleton.mp hy
            rw [← h1, ← z]
            exact hx)⟩
      · refine ⟨_, some t3, .inl ?_, rows, q, t3, some (.fr (.int i)), some (.fr (.int a)), q7, q8, rfl, T3.mono (by omega), H3, ⟨fun p hp2 => ?_, ro.n⟩, by omega, rfl⟩
        · generalize rows.map i3 = RR at *
          simp (disch := first | omega | (simp <;> omega) | fail) [if_pos, b__law_sent_L1, b__law_sent_L1_1, e6, e3, ev, cm, ha, hp]
        · have := ro.b p hp2
          omega)
  rw [rangeD_len] at T' ro ln
  refine ⟨rows, q, t', ?_, T'.mono (by omega), ⟨fun p hp => ?_, ro.n⟩, by omega, H'⟩
  · have rg : rgOk 0 (1 + (M : Int)) := by unfold rgOk; omega
    have tn : (1 + (M : Int) - 0).toNat = M + 1 := by omega
    have tn2 : (1 + (M : Int)).toNat = M + 1 := by omega
    generalize rows.map i3 = RR at *
    simp (disch := first | omega | (simp <;> omega) | fail) [if_pos, d__law_sent, b__law_sent, b__law_sent_1, b__law_sent_2, b__law_sent_3, ev_body, startP, List.replicate, b1, e0, rg, tn, tn2, e]
  · have := ro.b p hp
    omega
theorem fst_map {rows : List Rw} (f : Rw → Int × Int) (h : ∀ p, (f p).1 = p.1) : (rows.map f).map (·.1) = rows.map (·.1) := by
  rw [List.map_map]
  exact List.map_congr_left fun p _ => h p
inductive AccR (s : PySem.Str) (rows : List Rw) (P : Int) : List (PySem.Str × Ac) → Prop
  | none : rows = [] → AccR s rows P []
  | one (a : Ac) : rows ≠ [] → a.sent = rows.map (fun p => (p.1, p.2.1)) → (∀ n, g0 a.came n = (al (rows.map fun p => (p.1, p.2.2)) n).getD 0) → a.paid = P → a.came.length ≤ rows.length → AccR s rows P [(s, a)]
theorem single {α : Type} {l r : List α} {x y : α} (h : [x] = l ++ y :: r) : l = [] ∧ r = [] ∧ y = x := by
  cases l with
  | nil => cases h; exact ⟨rfl, rfl, rfl⟩
  | cons p l => simp at h
theorem send_row {t : Tau} {L : Lg} {R : List (Nat × Nd)} {s : PySem.Str} {rows : List Rw} {P : Int} (H : Hl t.st (lgH L ++ R)) (A : AccR s rows P L.accs) (hl : rows.length ≤ 100) (hP : rows = [] → P = 0) {n a : Int} (hn : n ∉ rows.map (·.1)) :
    ∃ t' b, d_Ledger_send [.fr (.ptr L.pl), .fr (.str s), .fr (.int n), .fr (.int a)] (some t) = .ok .non (some t') ∧ TS1 t t' ∧ Hl t'.st (lgH { L with accs := [(s, b)] } ++ R) ∧ b.sent = (rows.map fun p => (p.1, p.2.1)) ++ [(n, a)] ∧ (∀ n, g0 b.came n = (al (rows.map fun p => (p.1, p.2.2)) n).getD 0) ∧ b.paid = P ∧ b.came.length ≤ rows.length := by
  cases hA : L.accs with
  | nil =>
    rw [hA] at A
    cases A with | none h0 =>
    obtain ⟨t', b, e, ts, b1, b2, b3, H'⟩ := send_new (s := s) H (by rw [hA]; rfl) n a (by rw [hA]; decide)
    subst h0
    refine ⟨t', b, e, ts, ?_, by rw [b1]; rfl, fun n => by rw [b2]; rfl, by rw [b3, hP rfl], by rw [b2]; exact Nat.le_refl _⟩
    unfold addAc at H'
    rw [hA] at H'
    exact H'
  | cons x xs =>
    rw [hA] at A
    cases A with | one b h0 h1 h2 h3 h4 =>
    have hal : al L.accs s = some b := by rw [hA, al_cons, if_pos rfl]
    obtain ⟨t', l, r, e, ts, el, _, H'⟩ := send_in H hal n a (by rw [hA]; show 1 < 1000000; decide) (by rw [h1, List.length_map]; omega)
    rw [hA] at el
    obtain ⟨rfl, rfl, _⟩ := single el
    have gn : al b.sent n = none := al_none.mpr (by rw [h1, fst_map _ fun _ => rfl]; exact hn)
    have e0 : g0 b.sent n + a = a := by unfold g0; rw [gn]; show 0 + a = a; omega
    rw [e0, aput_new gn, h1] at H'
    exact ⟨t', { b with sent := (rows.map fun p => (p.1, p.2.1)) ++ [(n, a)] }, e, ts, H', rfl, h2, h3, h4⟩
theorem put_row {t : Tau} {L : Lg} {R : List (Nat × Nd)} {s : PySem.Str} {rows : List Rw} {P : Int} (H : Hl t.st (lgH L ++ R)) (A : AccR s rows P L.accs) (hl : rows.length ≤ 100) (hP : rows = [] → P = 0) (hw : 0 ≤ L.within) {n a b : Int} (hn : n ∉ rows.map (·.1)) (hb : 0 ≤ b ∧ b ≤ a) :
    ∃ t1 t2 bs, d_Ledger_send [.fr (.ptr L.pl), .fr (.str s), .fr (.int n), .fr (.int a)] (some t) = .ok .non (some t1) ∧ LgAt t1 { L with accs := [(s, bs)] } ∧ ((0 < b ∧ d_Ledger_back [.fr (.ptr L.pl), .fr (.str s), .fr (.int n), .fr (.int n), .fr (.int b)] (some t1) = .ok .non (some t2)) ∨ (¬ 0 < b ∧ t2 = t1)) ∧
      TS1 t t2 ∧ ∃ accs, Hl t2.st (lgH { L with accs := accs } ++ R) ∧ AccR s (rows ++ [(n, a, b)]) P accs := by
  obtain ⟨t1, c, e1, s1, H1, c1, c2, c3, c4⟩ := send_row (a := a) H A hl hP hn
  have hs : c.sent = (rows ++ [(n, a, b)]).map fun p : Rw => (p.1, p.2.1) := by rw [c1, List.map_append]; rfl
  have hn2 : ∀ f : Rw → Int × Int, (∀ p, (f p).1 = p.1) → n ∉ (rows.map f).map (·.1) := fun f h => by rw [fst_map f h]; exact hn
  have cn : g0 c.came n = 0 := by
    rw [c2, al_none.mpr (hn2 (fun p => (p.1, p.2.2)) fun _ => rfl)]
    rfl
  have ca : ∀ k, (al ((rows ++ [(n, a, b)]).map fun p : Rw => (p.1, p.2.2)) k).getD 0 = if k = n then b else g0 c.came k := fun k => by
    rw [List.map_append]
    show (al ((rows.map fun p : Rw => (p.1, p.2.2)) ++ [(n, b)]) k).getD 0 = _
    rw [al_app (hn2 (fun p => (p.1, p.2.2)) fun _ => rfl), c2]
    split <;> rfl
  by_cases hp : 0 < b
  · have hal : al ({ L with accs := [(s, c)] } : Lg).accs s = some c := by show al [(s, c)] s = _; rw [al_cons, if_pos rfl]
    have so : g0 c.sent n = a := by
      unfold g0
      rw [c1, al_app (hn2 (fun p => (p.1, p.2.1)) fun _ => rfl), if_pos rfl]
      rfl
    obtain ⟨t2, l, r, e2, s2, el, _, H2⟩ := back_ok (n := n) (q := n) (c := b) H1 hal (by show n ≤ n + L.within; omega) (by unfold outA; rw [so, cn]; omega) (by omega)
    obtain ⟨rfl, rfl, _⟩ := single el
    refine ⟨t1, t2, c, e1, lgAt_of H1, .inl ⟨hp, e2⟩, s1.trans s2, _, H2, .one _ (by simp) hs (fun k => ?_) c3 ?_⟩
    · rw [ca]
      show g0 (aput c.came n (g0 c.came n + b)) k = _
      unfold g0
      by_cases hk : k = n
      · subst hk
        rw [al_aput_self, if_pos rfl]
        show g0 c.came k + b = b
        rw [cn]
        omega
      · rw [al_aput_ne hk, if_neg hk]
    · have := aput_len c.came n (g0 c.came n + b)
      rw [List.length_append]
      show (aput c.came n _).length ≤ rows.length + 1
      omega
  · refine ⟨t1, t1, c, e1, lgAt_of H1, .inr ⟨hp, rfl⟩, s1, _, H1, .one _ (by simp) hs (fun k => ?_) c3 ?_⟩
    · rw [ca]
      split
      · rename_i hk
        rw [hk, cn]
        omega
      · rfl
    · rw [List.length_append]
      omega
theorem put_ok {t : Tau} {L : Lg} {R : List (Nat × Nd)} {s : PySem.Str} {rows : List Rw} {K : Int} (H : Hl t.st (lgH L ++ R)) (h0 : L.accs = []) (hw : 0 ≤ L.within) (ro : RwOk K rows) (ln : rows.length ≤ 100) :
    ∃ t' accs, d__law_put [.fr (.ptr L.pl), .fr (.str s), .fr (.lst (rows.map i3))] (some t) = .ok .non (some t') ∧ TS1 t t' ∧ Hl t'.st (lgH { L with accs := accs } ++ R) ∧ AccR s rows 0 accs := by
  obtain ⟨ρ', τ', e, t', accs, q3, q4, q5, rfl, s', H', A', rfl⟩ := forL_inv (t := .tp [.nm 3, .nm 4, .nm 5]) (δ := b__law_put_L1) (ds := rows.map i3) (ρ := [some (.fr (.ptr L.pl)), some (.fr (.str s)), some (.fr (.lst (rows.map i3))), none, none, none]) (τ := some t)
    (fun i ρ τ => ∃ t' accs q3 q4 q5, τ = some t' ∧ TS1 t t' ∧ Hl t'.st (lgH { L with accs := accs } ++ R) ∧ AccR s (rows.take i) 0 accs ∧ ρ = [some (.fr (.ptr L.pl)), some (.fr (.str s)), some (.fr (.lst (rows.map i3))), q3, q4, q5])
    ⟨t, [], none, none, none, rfl, TS1.refl t, by rw [← h0]; exact H, .none (by rw [List.take_zero]), rfl⟩ (by
      rintro i d ρ τ hd ⟨t', accs, q3, q4, q5, rfl, s', H', A', rfl⟩
      rw [List.getElem?_map] at hd
      obtain ⟨⟨n, a, b⟩, hx, rfl⟩ := Option.map_eq_some_iff.mp hd
      have hb := ro.b _ (List.mem_of_getElem? hx)
      have tk : rows.take (i + 1) = rows.take i ++ [(n, a, b)] := by rw [List.take_add_one, hx]; rfl
      have hn : n ∉ (rows.take i).map (·.1) := fun z => by
        obtain ⟨hi, hx2⟩ := List.getElem?_eq_some_iff.mp hx
        have nd : ((rows.take (i + 1)).map (·.1)).Nodup := ro.n.sublist ((List.take_sublist _ _).map _)
        rw [tk, List.map_append, List.nodup_append] at nd
        exact nd.2.2 n z n (by simp) rfl
      obtain ⟨t1, t2, bs, f1, g1, f2, s2, accs2, H2, A2⟩ := put_row (L := { L with accs := accs }) (n := n) (a := a) (b := b) H' A' (by rw [List.length_take]; omega) (fun _ => rfl) hw hn ⟨hb.2.2.2.2.1, hb.2.2.2.2.2⟩
      have g0' := lgAt_of H'
      have o := objAt_o g0'.o
      have o1 := objAt_o g1.o
      have l1 := fg_send { L with accs := accs }
      have l2 := fg_back { L with accs := [(s, bs)] }
      refine ⟨_, tgF_three, _, some t2, .inl ?_, t2, accs2, some (.fr (.int n)), some (.fr (.int a)), some (.fr (.int b)), rfl, s'.trans s2, H2, by rw [tk]; exact A2, rfl⟩
      dsimp only at o o1 f1 f2
      generalize lgF { L with accs := accs } = F0 at *
      generalize lgF { L with accs := [(s, bs)] } = F1 at *
      generalize rows.map i3 = RR at *
      rcases f2 with ⟨hp, f2⟩ | ⟨hp, rfl⟩
      · simp (disch := first | omega | (simp <;> omega) | fail) [if_pos, b__law_put_L1, b__law_put_L1_1, eSMK1_at o, l1, pickL, pick1, List.filterMap, f1, hp, eSMeN1_at o1, l2, f2]
      · simp (disch := first | omega | (simp <;> omega) | fail) [if_pos, b__law_put_L1, b__law_put_L1_1, eSMK1_at o, l1, pickL, pick1, List.filterMap, f1, hp])
  rw [List.length_map, List.take_length] at A'
  refine ⟨t', accs, ?_, s', H', A'⟩
  generalize rows.map i3 = RR at *
  simp (disch := first | omega | (simp <;> omega) | fail) [if_pos, d__law_put, b__law_put, ev_body, startP, List.replicate, e]
theorem hrot {st : List Nd} {A B C : List (Nat × Nd)} (H : Hl st (A ++ (B ++ C))) : Hl st (B ++ (C ++ A)) := H.perm (by
  rw [← List.append_assoc B C A]
  exact List.perm_append_comm)
theorem big_of {i : Int} (h0 : -(10 ^ 40) ≤ i) (h1 : i ≤ 10 ^ 40) : Rb 0 0 (.int i) := Rb.big (by omega)
theorem i4_rb {p : Int × Int × Int × Int} (h1 : -(10 ^ 40) ≤ p.1 ∧ p.1 ≤ 10 ^ 40) (h2 : -(10 ^ 40) ≤ p.2.1 ∧ p.2.1 ≤ 10 ^ 40) (h3 : -(10 ^ 40) ≤ p.2.2.1 ∧ p.2.2.1 ≤ 10 ^ 40) (h4 : -(10 ^ 40) ≤ p.2.2.2 ∧ p.2.2.2 ≤ 10 ^ 40) : Rb 4 1 (i4 p) := by
  have := Rb.tup (RbA.cons (big_of h1.1 h1.2) (RbA.cons (big_of h2.1 h2.2) (RbA.cons (big_of h3.1 h3.2) (RbA.cons (big_of h4.1 h4.2) RbA.nil))))
  exact this.mono (by decide) (by decide)
theorem i3_rb {p : Rw} (h1 : -(10 ^ 40) ≤ p.1 ∧ p.1 ≤ 10 ^ 40) (h2 : -(10 ^ 40) ≤ p.2.1 ∧ p.2.1 ≤ 10 ^ 40) (h3 : -(10 ^ 40) ≤ p.2.2 ∧ p.2.2 ≤ 10 ^ 40) : Rb 3 1 (i3 p) := by
  have := Rb.tup (RbA.cons (big_of h1.1 h1.2) (RbA.cons (big_of h2.1 h2.2) (RbA.cons (big_of h3.1 h3.2) RbA.nil)))
  exact this.mono (by decide) (by decide)
theorem repr_i4 {rows : List (Int × Int × Int × Int)} (hl : rows.length ≤ 1000) (h : ∀ p ∈ rows, (-(10 ^ 40) ≤ p.1 ∧ p.1 ≤ 10 ^ 40) ∧ (-(10 ^ 40) ≤ p.2.1 ∧ p.2.1 ≤ 10 ^ 40) ∧ (-(10 ^ 40) ≤ p.2.2.1 ∧ p.2.2.1 ≤ 10 ^ 40) ∧ (-(10 ^ 40) ≤ p.2.2.2 ∧ p.2.2.2 ≤ 10 ^ 40)) : ∃ x, gRepr (.lst (rows.map i4)) = some (.str x) :=
  gRepr_ok (Rb.lst (RbA.all fun d hd => by
    obtain ⟨p, hp, rfl⟩ := List.mem_map.mp hd
    obtain ⟨a, b, c, d⟩ := h p hp
    exact i4_rb a b c d)) rfl (by rw [List.length_map]; omega) (by decide)
theorem ne_rows {rows : List Rw} {K : Int} (hK : K ≤ 100) (ro : RwOk K rows) : gNeD (.lst (rows.map i3)) (.lst []) = some (.bl (!decide (rows = []))) := by
  have e := ne_nil_rb (ds := rows.map i3) (Rb.lst (RbA.all fun d hd => by
    obtain ⟨p, hp, rfl⟩ := List.mem_map.mp hd
    have := ro.b p hp
    exact i3_rb ⟨by omega, by omega⟩ ⟨by omega, by omega⟩ ⟨by omega, by omega⟩)) (by decide)
  rw [e]
  cases rows <;> simp
structure PsOk (i : Nat) (ps : List (Int × Int)) : Prop where
  n : (ps.map (·.1)).Nodup
  l : ps.length ≤ i
  b : ∀ p ∈ ps, 0 ≤ p.2 ∧ p.2 ≤ 1000000000
theorem PsOk.put {i : Nat} {ps : List (Int × Int)} (h : PsOk i ps) (n v : Int) (hv : 0 ≤ v ∧ v ≤ 1000000000) : PsOk (i + 1) (aput ps n v) :=
  ⟨aput_nodup h.n, Nat.le_trans (aput_len _ _ _) (by have := h.l; omega), fun p hp => by
    have e := al_of_mem (k := p.1) (v := p.2) (aput_nodup (k := n) (v := v) h.n) hp
    by_cases k : p.1 = n
    · rw [k, al_aput_self] at e
      cases e
      exact hv
    · rw [al_aput_ne k] at e
      exact h.b p (al_some e)⟩
theorem g0_b {ps : List (Int × Int)} {i : Nat} (h : PsOk i ps) (n : Int) : 0 ≤ g0 ps n ∧ g0 ps n ≤ 1000000000 := by
  unfold g0
  cases e : al ps n with
  | none => exact ⟨Int.le_refl _, by decide⟩
  | some v => exact h.b _ (al_some e)
theorem price_b {L : Lg} {i : Nat} (h : PsOk i L.prices) (hp : 0 ≤ L.price ∧ L.price ≤ 1000000000) (n : Int) : 0 ≤ priceL L n ∧ priceL L n ≤ 1000000000 := by
  unfold priceL
  cases leK L.prices n with
  | nil => exact hp
  | cons k ks => exact g0_b h _
theorem rows_al {rows : List Rw} {K : Int} (ro : RwOk K rows) (n : Int) : (al (rows.map fun p : Rw => (p.1, p.2.1)) n = none ∧ al (rows.map fun p : Rw => (p.1, p.2.2)) n = none) ∨ ∃ a b, al (rows.map fun p : Rw => (p.1, p.2.1)) n = some a ∧ al (rows.map fun p : Rw => (p.1, p.2.2)) n = some b ∧ 0 < a ∧ a ≤ 400 ∧ 0 ≤ b ∧ b ≤ a := by
  by_cases h : n ∈ rows.map (·.1)
  · obtain ⟨p, hp, rfl⟩ := List.mem_map.mp h
    have b := ro.b p hp
    refine .inr ⟨p.2.1, p.2.2, al_of_mem (by rw [fst_map _ fun _ => rfl]; exact ro.n) (List.mem_map.mpr ⟨p, hp, rfl⟩), al_of_mem (by rw [fst_map _ fun _ => rfl]; exact ro.n) (List.mem_map.mpr ⟨p, hp, rfl⟩), b.2.2.1, b.2.2.2.1, b.2.2.2.2.1, b.2.2.2.2.2⟩
  · exact .inl ⟨al_none.mpr (by rw [fst_map _ fun _ => rfl]; exact h), al_none.mpr (by rw [fst_map _ fun _ => rfl]; exact h)⟩
theorem out_b {rows : List Rw} {K : Int} (ro : RwOk K rows) {a : Ac} (h1 : ∀ n, al a.sent n = al (rows.map fun p : Rw => (p.1, p.2.1)) n) (h2 : ∀ n, g0 a.came n = (al (rows.map fun p : Rw => (p.1, p.2.2)) n).getD 0) (n : Int) : (0 ≤ g0 a.sent n ∧ g0 a.sent n ≤ 400) ∧ (0 ≤ g0 a.came n ∧ g0 a.came n ≤ 400) ∧ 0 ≤ outA a n ∧ outA a n ≤ 400 := by
  unfold outA
  rw [h2]
  unfold g0
  rw [h1]
  rcases rows_al ro n with ⟨e1, e2⟩ | ⟨x, y, e1, e2, c1, c2, c3, c4⟩
  · rw [e1, e2]
    decide
  · rw [e1, e2]
    show (0 ≤ x ∧ x ≤ 400) ∧ (0 ≤ y ∧ y ≤ 400) ∧ 0 ≤ x - y ∧ x - y ≤ 400
    omega
theorem cost_b {L : Lg} {i : Nat} (h : PsOk i L.prices) (hp : 0 ≤ L.price ∧ L.price ≤ 1000000000) (hf : 2 ≤ L.free) {n c : Int} (hc : 0 ≤ c ∧ c ≤ 400) : 0 ≤ costL L n c ∧ costL L n c ≤ 400000000000 := by
  obtain ⟨p0, p1⟩ := price_b h hp n
  have fd : c.fdiv L.free = c / L.free := Int.fdiv_eq_ediv_of_nonneg _ (by omega)
  have q0 : 0 ≤ c / L.free := Int.ediv_nonneg hc.1 (by omega)
  have q1 : c / L.free ≤ c := Int.ediv_le_self _ hc.1
  unfold costL
  rw [fd]
  refine ⟨Int.mul_nonneg (by omega) p0, ?_⟩
  have := Int.mul_le_mul (show c - c / L.free ≤ 400 by omega) p1 p0 (by decide)
  omega
theorem al_came {rows : List Rw} {s : PySem.Str} (n : Int) : al (rows.map fun p : Rw => ((s, p.1), p.2.2)) (s, n) = al (rows.map fun p : Rw => (p.1, p.2.2)) n := by
  induction rows with
  | nil => rfl
  | cons p rows ih =>
    rw [List.map_cons, List.map_cons, al_cons, al_cons, ih]
    by_cases e : p.1 = n
    · rw [if_pos e, if_pos (by rw [e])]
    · rw [if_neg e, if_neg fun z => e (congrArg Prod.snd z)]
theorem bout_rows {t : Tau} {L : Lg} {B : Bk} {kvs : List (Key × DD)} {s : PySem.Str} {q : Nat} {rows : List Rw} {K : Int} {i : Nat} {R1 R2 : List (Nat × Nd)} {a : Ac} (HL : Hl t.st (lgH L ++ R1)) (HB : Hl t.st (bkH B ++ R2)) (b : BD kvs B) (hL : L.accs = [(s, a)]) (hne : rows ≠ []) (ro : RwOk K rows) (hK : K ≤ 100) (ln : rows.length ≤ 10)
    (hs : B.sent = sentR s q rows) (hc : B.came = rows.map fun p => ((s, p.1), p.2.2)) (a1 : ∀ n, al a.sent n = al (rows.map fun p : Rw => (p.1, p.2.1)) n) (a0 : (a.sent.map (·.1)).Nodup) (a2 : ∀ n, g0 a.came n = (al (rows.map fun p : Rw => (p.1, p.2.2)) n).getD 0) (al1 : a.sent.length = rows.length)
    (pr : L.price = B.price) (fr : L.free = B.free) (hp : 0 ≤ L.price ∧ L.price ≤ 1000000000) (hf : 2 ≤ L.free ∧ L.free ≤ 32) (ps : ∀ n, al L.prices n = al B.prices n) (p1 : PsOk i L.prices) (p2 : PsOk i B.prices) (hi : i ≤ 20) :
    ∃ x, d_Ledger_account [.fr (.ptr L.pl), .fr (.str s)] (some t) = .ok (.lst x) (some t) ∧ d__law_account [.fr (.dic kvs), .fr (.str s)] (some t) = .ok (.lst x) (some t) ∧ (∃ z, gRepr (.lst x) = some (.str z)) ∧
      (a.paid = (al B.paid s).getD 0 → ∃ y, d_Ledger_owes [.fr (.ptr L.pl), .fr (.str s)] (some t) = .ok (.int y) (some t) ∧ d__law_owes [.fr (.dic kvs), .fr (.str s)] (some t) = .ok (.int y) (some t)) := by
  have hal : al L.accs s = some a := by rw [hL, al_cons, if_pos rfl]
  have hsb : al B.sent s = some ⟨q, rows.map fun p => (p.1, p.2.1)⟩ := by
    rw [hs]
    unfold sentR
    rw [if_neg hne, al_cons, if_pos rfl]
  have ob := out_b ro a1 a2
  have l1 := p1.l
  have l2 := p2.l
  have oc : ∀ n, 0 ≤ outA a n ∧ outA a n < 1152921504606846976 := fun n => by have := ob n; omega
  have cm : ∀ n, g0 a.came n = (al B.came (s, n)).getD 0 := fun n => by rw [a2, hc, al_came]
  have bc : ∀ n, 0 ≤ g0 (rows.map fun p : Rw => (p.1, p.2.1)) n - (al B.came (s, n)).getD 0 ∧ g0 (rows.map fun p : Rw => (p.1, p.2.1)) n - (al B.came (s, n)).getD 0 < 1152921504606846976 := fun n => by
    have := oc n
    unfold outA at this
    rw [cm, show g0 a.sent n = g0 (rows.map fun p : Rw => (p.1, p.2.1)) n from by unfold g0; rw [a1]] at this
    exact this
  have nd : ((rows.map fun p : Rw => (p.1, p.2.1)).map (·.1)).Nodup := by rw [fst_map _ fun _ => rfl]; exact ro.n
  have lb : ∀ x, LB1 L { B with paid := [(s, x)] } s { a with paid := x } (rows.map fun p : Rw => (p.1, p.2.1)) := fun x => ⟨pr, fr, ps, ⟨p1.n, p2.n⟩, a1, ⟨a0, nd⟩, cm, by show x = (al [(s, x)] s).getD 0; rw [al_cons, if_pos rfl]; rfl⟩
  have er : rowsA L a = rowsB B s (rows.map fun p : Rw => (p.1, p.2.1)) := (lb 0).rows
  have A1 := account_ok (lgAt_of HL) hal (by omega) (by omega) ⟨by omega, by omega⟩ oc
  have A2 := baccount_ok (bat_of HB) b hsb (by omega) (by show (rows.map _).length < 64; rw [List.length_map]; omega) ⟨by omega, by omega⟩ bc
  rw [er] at A1
  refine ⟨_, A1, A2, ?_, fun hpd => ?_⟩
  · rw [← er]
    refine repr_i4 ?_ fun p hp2 => ?_
    · unfold rowsA tellA
      rw [List.length_map, List.length_map, (sortI_perm _).length_eq, List.length_map]
      omega
    · unfold rowsA tellA at hp2
      rw [List.map_map] at hp2
      obtain ⟨n, hn, rfl⟩ := List.mem_map.mp hp2
      have hn2 : n ∈ a.sent.map (·.1) := (sortI_perm _).mem_iff.mp hn
      have hn3 : n ∈ rows.map (·.1) := by
        have : n ∈ (rows.map fun p : Rw => (p.1, p.2.1)).map (·.1) := (keys_perm a0 nd fun k => by rw [a1]).mem_iff.mp hn2
        rw [fst_map _ fun _ => rfl] at this
        exact this
      obtain ⟨r, hr, rfl⟩ := List.mem_map.mp hn3
      have rb := ro.b r hr
      have o1 := ob r.1
      have cb := cost_b p1 hp hf.1 (n := r.1) (c := outA a r.1) ⟨o1.2.2.1, o1.2.2.2⟩
      unfold outA at cb
      show (_ ≤ r.1 ∧ r.1 ≤ _) ∧ (_ ≤ g0 a.sent r.1 ∧ g0 a.sent r.1 ≤ _) ∧ (_ ≤ g0 a.came r.1 ∧ g0 a.came r.1 ≤ _) ∧ (_ ≤ costL L r.1 (g0 a.sent r.1 - g0 a.came r.1) ∧ costL L r.1 (g0 a.sent r.1 - g0 a.came r.1) ≤ _)
      refine ⟨⟨by omega, by omega⟩, ⟨by omega, by omega⟩, ⟨by omega, by omega⟩, by omega, by omega⟩
  · have ow : owesA L a = owesB B s (rows.map fun p : Rw => (p.1, p.2.1)) := by
      unfold owesA owesB
      rw [er, hpd]
      omega
    have O1 := owes_ok (lgAt_of HL) hal (by omega) (by omega) ⟨by omega, by omega⟩ oc
    have O2 := bowes_ok (bat_of HB) b hsb (by omega) (by show (rows.map _).length < 64; rw [List.length_map]; omega) ⟨by omega, by omega⟩ bc
    rw [ow] at O1
    exact ⟨_, O1, O2⟩
def kvB (c g : Int) (n : Nat) : List (Key × DD) := [(.inr "price", .int c), (.inr "free", .int g), (.inr "prices", .ptr n), (.inr "sent", .ptr (n + 1)), (.inr "came", .ptr (n + 2)), (.inr "paid", .ptr (n + 3))]
def newB (c g : Int) (n : Nat) : Bk := ⟨n, n + 1, n + 2, n + 3, c, g, [], [], [], []⟩
theorem kvB_is (c g : Int) (n : Nat) : mergeD [] [(.inr (Str.ofString "price"), .int c), (.inr (Str.ofString "free"), .int g), (.inr (Str.ofString "prices"), .ptr n), (.inr (Str.ofString "sent"), .ptr (n + 1)), (.inr (Str.ofString "came"), .ptr (n + 2)), (.inr (Str.ofString "paid"), .ptr (n + 3))] = kvB c g n := by kernel_rfl
theorem bdB (c g : Int) (n : Nat) : BD (kvB c g n) (newB c g n) := ⟨by kernel_rfl, by kernel_rfl, by kernel_rfl, by kernel_rfl, by kernel_rfl, by kernel_rfl⟩
def ndsB : List Nd := [.dK [], .dK [], .dT [], .dK []]
theorem newB_hl {t : Tau} (c g : Int) : Hl (stX t ndsB).st (bkH (newB c g t.st.length) ++ []) := by
  have h1 := Hl.new3 (X := []) (a := .dK []) (b := .dK []) (c := .dT []) (Hl.nil (st := t.st))
  have h2 := Hl.new (X := [(t.st.length, Nd.dK []), (t.st.length + 1, .dK []), (t.st.length + 2, .dT [])]) (Y := []) (nd := .dK []) h1
  have e : (t.st ++ [Nd.dK [], .dK [], .dT []]).length = t.st.length + 3 := by simp
  rw [e, List.append_assoc] at h2
  exact h2
@[simp] theorem pushSt_len {t : Tau} {nd : Nd} : (pushSt t nd).st.length = t.st.length + 1 := by unfold pushSt; simp
theorem led_a {t : Tau} {c g : Int} {o0 o1 o2 o5 o6 o7 o8 o9 o10 o11 o12 : Option PV} : dMkSN 4 0 2 "Ledger" d_LedgerD_initD (pickL [.fr (.int 2), .fr (.int 13), .fr (.int 3)] [.z 0, .z 1, .c 2]) dpNil (dpCons (dpE (dV 3)) (dpCons (dpE (dV 4)) dpNil)) [o0, o1, o2, some (.fr (.int c)), some (.fr (.int g)), o5, o6, o7, o8, o9, o10, o11, o12] (some t) = .ok (.ptr t.st.length) (some (stX t (ndsL t.st.length c g 3))) :=
  mkSN_ok (as := []) (bs := [.fr (.int c), .fr (.int g)]) (τ1 := some t) (τ2 := some t) rfl (by simp) rfl rfl (by rw [mkS_ok]; refine (if_pos ?_).trans ?_; rfl; show eMkR (d_LedgerD_initD [.fr (.ptr t.st.length), .fr (.int c), .fr (.int g), .fr (.int 3)] _) _ = _; rw [init_led]; rfl)
theorem led_b {t : Tau} {c g : Int} {o0 o1 o2 o5 o6 o7 o8 o9 o10 o11 o12 : Option PV} : dMkSN 4 2 0 "Ledger" d_LedgerD_initD (pickL [.fr (.int 2), .fr (.int 13), .fr (.int 3)] [.a 0, .a 1, .c 2]) (dpCons (dpE (dV 3)) (dpCons (dpE (dV 4)) dpNil)) dpNil [o0, o1, o2, some (.fr (.int c)), some (.fr (.int g)), o5, o6, o7, o8, o9, o10, o11, o12] (some t) = .ok (.ptr t.st.length) (some (stX t (ndsL t.st.length c g 3))) :=
  mkSN_ok (as := [.fr (.int c), .fr (.int g)]) (bs := []) (τ1 := some t) (τ2 := some t) (by simp) rfl rfl rfl (by rw [mkS_ok]; refine (if_pos ?_).trans ?_; rfl; show eMkR (d_LedgerD_initD [.fr (.ptr t.st.length), .fr (.int c), .fr (.int g), .fr (.int 3)] _) _ = _; rw [init_led]; rfl)
theorem paid_ok {t : Tau} {L : Lg} {B : Bk} {kvs : List (Key × DD)} {s : PySem.Str} {q : Nat} {rows : List Rw} {R : List (Nat × Nd)} {P : Int} (H : Hl t.st (lgH L ++ (bkH B ++ R))) (b : BD kvs B) (A : AccR s rows P L.accs) (hs : B.sent = sentR s q rows) (hpl : B.paid.length ≤ 1) (hp1 : (al B.paid s).getD 0 = P) (hk : ∀ p ∈ B.paid, p.1 = s) (p : Int) :
    ∃ t' P' accs pd, d__law_paid [.fr (.ptr L.pl), .fr (.dic kvs), .fr (.str s), .fr (.int p)] (some t) = .ok .non (some t') ∧ TS1 t t' ∧ Hl t'.st (lgH { L with accs := accs } ++ (bkH { B with paid := pd } ++ R)) ∧ AccR s rows P' accs ∧ pd.length ≤ 1 ∧ (al pd s).getD 0 = P' ∧ ∀ p ∈ pd, p.1 = s := by
  have HB := hrot H
  have b1 := b.st
  have b2 := b.pd
  have ls := look_s (k := s) (bat_of HB).s
  by_cases h0 : rows = []
  · have e0 : al B.sent s = none := by rw [hs]; unfold sentR; rw [if_pos h0]; rfl
    rw [e0] at ls
    have ls2 : sdlook t B.qs (.str s) = some none := ls
    exact ⟨t, P, L.accs, B.paid, by simp (disch := first | omega | (simp <;> omega) | fail) [if_pos, d__law_paid, b__law_paid, ev_body, startP, List.replicate, b1, ls2], TS1.refl t, H, A, hpl, hp1, hk⟩
  · have e0 : al B.sent s = some ⟨q, rows.map fun p => (p.1, p.2.1)⟩ := by rw [hs]; unfold sentR; rw [if_neg h0, al_cons, if_pos rfl]
    rw [e0] at ls
    have ls2 : sdlook t B.qs (.str s) = some (some (.ptr q)) := ls
    cases hA : L.accs with
    | nil =>
      rw [hA] at A
      cases A with | none h => exact (h0 h).elim
    | cons x xs =>
      rw [hA] at A
      cases A with | one a _ a1 a2 a3 a4 =>
      have hal : al L.accs s = some a := by rw [hA, al_cons, if_pos rfl]
      obtain ⟨t1, l, r, e1, s1, el, _, H1⟩ := pay_ok H hal p
      rw [hA] at el
      obtain ⟨rfl, rfl, _⟩ := single el
      have o := objAt_o (lgAt_of H).o
      have l1 := fg_pay L
      have HB1 := hrot H1
      have d1 := isDct_K (bat_of HB1).d
      have k1 := look_s (k := s) (bat_of HB1).d
      have gg : ((al B.paid s).map DD.int).getD (.int 0) = .int ((al B.paid s).getD 0) := getD_map
      obtain ⟨t2, e2, s2, H2⟩ := bput_paid HB1 (by omega) s ((al B.paid s).getD 0 + p)
      have H3 := hrot (hrot H2)
      have pk : ∀ x ∈ aput B.paid s ((al B.paid s).getD 0 + p), x.1 = s := fun x hx => by
        have : x.1 ∈ (aput B.paid s ((al B.paid s).getD 0 + p)).map (·.1) := List.mem_map.mpr ⟨x, hx, rfl⟩
        rw [aput_keys] at this
        split at this
        · obtain ⟨y, hy, e⟩ := List.mem_map.mp this
          rw [← e]
          exact hk y hy
        · rcases List.mem_append.mp this with h | h
          · obtain ⟨y, hy, e⟩ := List.mem_map.mp h
            rw [← e]
            exact hk y hy
          · exact List.mem_singleton.mp h
      have pln : (aput B.paid s ((al B.paid s).getD 0 + p)).length ≤ 1 := by
        cases hB : B.paid with
        | nil => exact Nat.le_refl _
        | cons x xs =>
          have hx : x.1 = s := hk x (by rw [hB]; exact List.mem_cons_self)
          unfold aput
          rw [if_pos (by rw [List.any_cons, decide_eq_true hx]; rfl), List.length_map, ← hB]
          exact hpl
      refine ⟨t2, P + p, [(s, { a with paid := a.paid + p })], _, ?_, s1.trans s2, H3, .one _ h0 a1 a2 (by show a.paid + p = _; rw [a3]) a4, pln, by rw [al_aput_self, hp1]; rfl, pk⟩
      generalize lgF L = FS at *
      simp (disch := first | omega | (simp <;> omega) | fail) [if_pos, d__law_paid, b__law_paid, ev_body, startP, List.replicate, b1, b2, ls2, eSMK1_at o, l1, pickL, pick1, List.filterMap, e1, d1, k1, gg, e2]
structure TI (N : Nat) (s : PySem.Str) (q : Nat) (rows : List Rw) (L : Lg) (B : Bk) (W : Lg) (i : Nat) (t : Tau) (accs : List (PySem.Str × Ac)) (ps : List (Int × Int)) (pd : List (PySem.Str × Int)) : Prop where
  tt : Np.Tn (N + 30 * i) t
  hh : Hl t.st (lgH { L with prices := ps, accs := accs } ++ (bkH { bkR B s q rows with prices := ps, paid := pd } ++ lgH W))
  aa : ∃ P, AccR s rows P accs ∧ (al pd s).getD 0 = P
  pp : pd.length ≤ 1 ∧ ∀ p ∈ pd, p.1 = s
  so : PsOk i ps
structure Bout (c g : Int) (L : Lg) (B : Bk) (kvs : List (Key × DD)) : Prop where
  bb : BD kvs B
  hc : 0 ≤ c ∧ c ≤ 1000
  hg : 2 ≤ g ∧ g ≤ 32
  hl : L.price = c ∧ L.free = g ∧ L.within = 3
  hk : B.price = c ∧ B.free = g
theorem turn_ok {N : Nat} {s : PySem.Str} {q : Nat} {rows : List Rw} {L W : Lg} {B : Bk} {c g : Int} {kvs : List (Key × DD)} {i : Nat} {t : Tau} {accs : List (PySem.Str × Ac)} {ps : List (Int × Int)} {pd : List (PySem.Str × Int)} {o0 o2 o10 o11 o12 : Option PV} (b : Bout c g L B kvs) (ro : RwOk 10 rows) (ln : rows.length ≤ 10) (hN : N < 2 ^ 40) (hi : i < 9)
    (I : TI N s q rows L B W i t accs ps pd) :
    ∃ t' accs' ps' pd' q11 q12, b_law_L2 [o0, some .tape, o2, some (.fr (.int c)), some (.fr (.int g)), some (.fr (.str s)), some (.fr (.dic kvs)), some (.fr (.ptr L.pl)), some (.fr (.ptr W.pl)), some (.fr (.lst (rows.map i3))), o10, o11, o12] (some t) = .ok (.nx [o0, some .tape, o2, some (.fr (.int c)), some (.fr (.int g)), some (.fr (.str s)), some (.fr (.dic kvs)), some (.fr (.ptr L.pl)), some (.fr (.ptr W.pl)), some (.fr (.lst (rows.map i3))), o10, q11, q12]) (some t') ∧ TI N s q rows L B W (i + 1) t' accs' ps' pd' := by
  obtain ⟨T, H, ⟨P, A, hP⟩, ⟨pl, pk⟩, po⟩ := I
  obtain ⟨r1, t1, e1, a1, c1, T1, y1⟩ := drw T (by omega) (m := 22) (by decide) (by decide)
  obtain ⟨r2, t2, e2, a2, c2, T2, y2⟩ := drw T1 (by omega) (m := 50) (by decide) (by decide)
  obtain ⟨r3, t3, e3, a3, c3, T3, y3⟩ := drw T2 (by omega) (m := 1000000000) (by decide) (by decide)
  obtain ⟨r4, t4, e4, a4, c4, T4, y4⟩ := drw T3 (by omega) (m := 3) (by decide) (by decide)
  obtain ⟨v, ev, hv⟩ := pick3 (a := 0) (b := r2) (c := r3) a4 c4
  have v0 : 0 ≤ v ∧ v ≤ 1000000000 := by rcases hv with rfl | rfl | rfl <;> omega
  have H4 : Hl t4.st (lgH { L with prices := ps, accs := accs } ++ (bkH { bkR B s q rows with prices := ps, paid := pd } ++ lgH W)) := by rw [y4, y3, y2, y1]; exact H
  have pl0 := po.l
  obtain ⟨t5, e5, s5, H5⟩ := from_ok H4 (by show ps.length < _; omega) r1 v
  obtain ⟨t6, e6, s6, H6⟩ := bput_price (hrot H5) (by show ps.length < _; omega) r1 v
  obtain ⟨r7, t7, e7, a7, c7, T7, y7⟩ := drw ((s5.trans s6).tn T4) (by omega) (m := 99) (by decide) (by decide)
  have H7 : Hl t7.st (lgH { L with prices := aput ps r1 v, accs := accs } ++ (bkH { bkR B s q rows with prices := aput ps r1 v, paid := pd } ++ lgH W)) := by rw [y7]; exact hrot (hrot H6)
  have bd : BD kvs { bkR B s q rows with prices := aput ps r1 v, paid := pd } := ⟨b.bb.pr, b.bb.fr, b.bb.ps, b.bb.st, b.bb.cm, b.bb.pd⟩
  obtain ⟨t8, P8, accs8, pd8, e8, s8, H8, A8, p81, p82, p83⟩ := paid_ok (q := q) H7 bd A rfl pl hP pk (r7 - 40)
  have po8 := po.put r1 v v0
  have b1 := b.bb.ps
  have o1 := objAt_o (lgAt_of H4).o
  have l1 := fg_from { L with prices := ps, accs := accs }
  have nr := ne_rows (by decide) ro
  have pw : CPow 10 9 := by decide
  refine ⟨t8, accs8, aput ps r1 v, pd8, some (.fr (.int r1)), some (.fr (.int v)), ?_, ⟨((s8.tn T7)).mono (by omega), H8, ⟨P8, A8, p82⟩, ⟨p81, p83⟩, po8⟩⟩
  dsimp only at o1 e5
  have e6b : sdput t5 B.qp (.int r1) (.int v) = some t6 := e6
  by_cases hr : rows = []
  · subst hr
    have nr2 : gNeD (.lst []) (.lst []) = some (.bl false) := nr
    generalize lgF { L with prices := ps, accs := accs } = F0 at *
    simp (disch := first | omega | (simp <;> omega) | fail) [if_pos, b_law_L2, b_law_L2_1, b_law_L2_2, b_law_L2_3, b_law_L2_4, b_law_L2_5, e1, e2, e3, e4, ev, pw, eSMK1_at o1, l1, pickL, pick1, List.filterMap, e5, b1, e6b, e7, e8, nr2]
  · cases A8 with
    | none h => exact (hr h).elim
    | one ac _ h1 h2 h3 h4 =>
      have lc := b.hl
      have hpr : 0 ≤ L.price ∧ L.price ≤ 1000000000 := by have := b.hc; rw [lc.1]; omega
      have hfr : 2 ≤ L.free ∧ L.free ≤ 32 := by have := b.hg; rw [lc.2.1]; omega
      have kc := b.hk
      have gc := b.hg
      have cc := b.hc
      obtain ⟨x, f1, f2, ⟨z, f3⟩, f4⟩ := bout_rows (L := { L with prices := aput ps r1 v, accs := [(s, ac)] }) (B := { bkR B s q rows with prices := aput ps r1 v, paid := pd8 }) (kvs := kvs) (q := q) (i := i + 1) (a := ac) H8 (hrot H8) ⟨b.bb.pr, b.bb.fr, b.bb.ps, b.bb.st, b.bb.cm, b.bb.pd⟩ rfl hr ro (by decide) ln rfl rfl (fun n => by rw [h1]) (by rw [h1, fst_map _ fun _ => rfl]; exact ro.n) h2 (by rw [h1, List.length_map])
        (lc.1.trans kc.1.symm) (lc.2.1.trans kc.2.symm) hpr hfr (fun _ => rfl) po8 po8 (by omega)
      obtain ⟨y, f5, f6⟩ := f4 (by rw [h3]; exact p82.symm)
      have o8 := objAt_o (lgAt_of H8).o
      have l2 := fg_account { L with prices := aput ps r1 v, accs := [(s, ac)] }
      have l3 := fg_owes { L with prices := aput ps r1 v, accs := [(s, ac)] }
      have nr2 : gNeD (.lst (rows.map i3)) (.lst []) = some (.bl true) := by rw [nr, decide_eq_false hr]; rfl
      dsimp only at o8 f1 f5
      generalize lgF { L with prices := ps, accs := accs } = F0 at *
      generalize lgF { L with prices := aput ps r1 v, accs := [(s, ac)] } = F1 at *
      generalize rows.map i3 = RR at *
      simp (disch := first | omega | (simp <;> omega) | fail) [if_pos, b_law_L2, b_law_L2_1, b_law_L2_2, b_law_L2_3, b_law_L2_4, b_law_L2_5, e1, e2, e3, e4, ev, pw, eSMK1_at o1, l1, pickL, pick1, List.filterMap, e5, b1, e6b, e7, e8, nr2, eSMeN1_at o8, l2, l3, f1, f2, f3, f5, f6]
theorem twin_ok {t : Tau} {L : Lg} {B : Bk} {kvs : List (Key × DD)} {R : List (Nat × Nd)} {i : Nat} {o0 o1 o2 o3 o4 o5 o7 o9 o10 o11 o12 : Option PV} (H : Hl t.st (lgH L ++ (bkH B ++ R))) (b : BD kvs B) (h0 : L.prices = []) (po : PsOk i B.prices) (hi : i ≤ 20) :
    ∃ t' q11, forL (.nm 11) b_law_L3 ((sortI (B.prices.map (·.1))).reverse.map DD.int) [o0, o1, o2, o3, o4, o5, some (.fr (.dic kvs)), o7, some (.fr (.ptr L.pl)), o9, o10, o11, o12] (some t) = .ok (.nx [o0, o1, o2, o3, o4, o5, some (.fr (.dic kvs)), o7, some (.fr (.ptr L.pl)), o9, o10, q11, o12]) (some t') ∧ TS1 t t' ∧
      Hl t'.st (lgH { L with prices := (sortI (B.prices.map (·.1))).reverse.map fun k => (k, g0 B.prices k) } ++ (bkH B ++ R)) := by
  have b1 := b.ps
  have pl := po.l
  have ln : (sortI (B.prices.map (·.1))).reverse.length ≤ 20 := by rw [List.length_reverse, (sortI_perm _).length_eq, List.length_map]; omega
  have nd : (sortI (B.prices.map (·.1))).reverse.Nodup := (List.reverse_perm _).nodup_iff.mpr ((sortI_perm _).nodup_iff.mpr po.n)
  have hm : ∀ k ∈ (sortI (B.prices.map (·.1))).reverse, ∃ v, al B.prices k = some v := fun k hk => by
    cases e : al B.prices k with
    | some v => exact ⟨v, rfl⟩
    | none => exact (al_none.mp e ((sortI_perm _).mem_iff.mp (List.mem_reverse.mp hk))).elim
  generalize (sortI (B.prices.map (·.1))).reverse = ks at *
  obtain ⟨ρ', τ', e, t', q11, rfl, s', H', rfl⟩ := forL_inv (t := .nm 11) (δ := b_law_L3) (ds := ks.map DD.int) (ρ := [o0, o1, o2, o3, o4, o5, some (.fr (.dic kvs)), o7, some (.fr (.ptr L.pl)), o9, o10, o11, o12]) (τ := some t)
    (fun i ρ τ => ∃ t' q11, τ = some t' ∧ TS1 t t' ∧ Hl t'.st (lgH { L with prices := (ks.take i).map fun k => (k, g0 B.prices k) } ++ (bkH B ++ R)) ∧ ρ = [o0, o1, o2, o3, o4, o5, some (.fr (.dic kvs)), o7, some (.fr (.ptr L.pl)), o9, o10, q11, o12])
    ⟨t, o11, rfl, TS1.refl t, by rw [List.take_zero, List.map_nil, ← h0]; exact H, rfl⟩ (by
      rintro i d ρ τ hd ⟨t', q11, rfl, s', H', rfl⟩
      rw [List.getElem?_map] at hd
      obtain ⟨k, hx, rfl⟩ := Option.map_eq_some_iff.mp hd
      obtain ⟨v, hv⟩ := hm k (List.mem_of_getElem? hx)
      have lk := look_i (k := k) (bat_of (hrot H')).p
      rw [hv] at lk
      have lk2 : sdlook t' B.qp (.int k) = some (some (.int v)) := lk
      have gv : g0 B.prices k = v := by unfold g0; rw [hv]; rfl
      have tk : ks.take (i + 1) = ks.take i ++ [k] := by rw [List.take_add_one, hx]; rfl
      have hn : k ∉ (((ks.take i).map fun k => (k, g0 B.prices k)).map (·.1)) := fun z => by
        rw [List.map_map] at z
        have z2 : k ∈ ks.take i := by
          obtain ⟨j, hj, e⟩ := List.mem_map.mp z
          rw [← show j = k from e]
          exact hj
        have n2 : (ks.take (i + 1)).Nodup := nd.sublist (List.take_sublist _ _)
        rw [tk, List.nodup_append] at n2
        exact n2.2.2 k z2 k (by simp) rfl
      obtain ⟨t2, e2, s2, H2⟩ := from_ok H' (by show ((ks.take i).map _).length < _; rw [List.length_map, List.length_take]; omega) k v
      have o := objAt_o (lgAt_of H').o
      have l1 := fg_from { L with prices := (ks.take i).map fun k => (k, g0 B.prices k) }
      have ea : aput ((ks.take i).map fun k => (k, g0 B.prices k)) k v = (ks.take (i + 1)).map fun k => (k, g0 B.prices k) := by
        rw [aput_new (al_none.mpr hn), tk, List.map_append, ← gv]
        rfl
      refine ⟨_, tgF_nm, _, some t2, .inl ?_, t2, some (.fr (.int k)), rfl, s'.trans s2, by rw [← ea]; exact H2, rfl⟩
      dsimp only at o e2
      generalize lgF { L with prices := (ks.take i).map fun k => (k, g0 B.prices k) } = F0 at *
      simp (disch := first | omega | (simp <;> omega) | fail) [if_pos, b_law_L3, b1, lk2, eSMeN1_at o, l1, e2])
  rw [List.length_map, List.take_length] at H'
  exact ⟨t', q11, e, s', H'⟩
theorem al_twin {ps : List (Int × Int)} {i : Nat} (po : PsOk i ps) (n : Int) : al ((sortI (ps.map (·.1))).reverse.map fun k => (k, g0 ps k)) n = al ps n := by
  have km : ((sortI (ps.map (·.1))).reverse.map fun k => (k, g0 ps k)).map (·.1) = (sortI (ps.map (·.1))).reverse := by
    rw [List.map_map]
    exact (List.map_congr_left fun k _ => rfl).trans (List.map_id _)
  have nd : (sortI (ps.map (·.1))).reverse.Nodup := (List.reverse_perm _).nodup_iff.mpr ((sortI_perm _).nodup_iff.mpr po.n)
  cases e : al ps n with
  | none =>
    refine al_none.mpr ?_
    rw [km]
    exact fun z => al_none.mp e ((sortI_perm _).mem_iff.mp (List.mem_reverse.mp z))
  | some v =>
    refine al_of_mem (by rw [km]; exact nd) ?_
    have hm : n ∈ (sortI (ps.map (·.1))).reverse := List.mem_reverse.mpr ((sortI_perm _).mem_iff.mpr (List.mem_map.mpr ⟨_, al_some e, rfl⟩))
    have gv : g0 ps n = v := by unfold g0; rw [e]; rfl
    rw [← gv]
    exact List.mem_map.mpr ⟨n, hm, rfl⟩
theorem hswap {st : List Nd} {A B C : List (Nat × Nd)} (H : Hl st (A ++ (B ++ C))) : Hl st (A ++ (C ++ B)) := H.perm (List.Perm.append_left A List.perm_append_comm)
theorem al_perm {κ α : Type} [DecidableEq κ] {xs ys : List (κ × α)} (h : xs.Perm ys) (nd : (xs.map (·.1)).Nodup) (k : κ) : al xs k = al ys k := by
  have nd2 : (ys.map (·.1)).Nodup := (h.map _).nodup_iff.mp nd
  cases e : al xs k with
  | some v => exact (al_of_mem nd2 (h.mem_iff.mp (al_some e))).symm
  | none => exact (al_none.mpr fun z => al_none.mp e ((h.map _).mem_iff.mpr z)).symm
theorem twin_ps {ps : List (Int × Int)} {i : Nat} (po : PsOk i ps) : PsOk i ((sortI (ps.map (·.1))).reverse.map fun k => (k, g0 ps k)) := by
  have km : ((sortI (ps.map (·.1))).reverse.map fun k => (k, g0 ps k)).map (·.1) = (sortI (ps.map (·.1))).reverse := by
    rw [List.map_map]
    exact (List.map_congr_left fun k _ => rfl).trans (List.map_id _)
  refine ⟨?_, ?_, fun p hp => ?_⟩
  · rw [km]
    exact (List.reverse_perm _).nodup_iff.mpr ((sortI_perm _).nodup_iff.mpr po.n)
  · rw [List.length_map, List.length_reverse, (sortI_perm _).length_eq, List.length_map]
    exact po.l
  · obtain ⟨k, _, rfl⟩ := List.mem_map.mp hp
    exact g0_b po k
theorem RwOk.rev {K : Int} {rows : List Rw} (ro : RwOk K rows) : RwOk K rows.reverse := ⟨fun p hp => ro.b p (List.mem_reverse.mp hp), by rw [List.map_reverse]; exact (List.reverse_perm _).nodup_iff.mpr ro.n⟩
theorem bout_ok {N : Nat} {t : Tau} {x0 : Option PV} {o2 o3 o4 o5 o6 o7 o8 o9 o10 o11 o12 : Option PV} (T : Np.Tn N t) (hN : N < 2 ^ 30) :
    ∃ t' q3 q4 q5 q6 q7 q8 q9 q10 q11 q12, b_law_L1 [x0, some .tape, o2, o3, o4, o5, o6, o7, o8, o9, o10, o11, o12] (some t) = .ok (.nx [x0, some .tape, o2, q3, q4, q5, q6, q7, q8, q9, q10, q11, q12]) (some t') ∧ Np.Tn (N + 1000) t' := by
  obtain ⟨r1, t1, e1, a1, c1, T1, _⟩ := drw T (by omega) (m := 50) (by decide) (by decide)
  obtain ⟨r2, t2, e2, a2, c2, T2, _⟩ := drw T1 (by omega) (m := 30) (by decide) (by decide)
  obtain ⟨ps0, t3, e3, l3, _, cp3, T3, _, _⟩ := nms (M := 1) T2 (by omega) (by decide)
  obtain ⟨p, rfl⟩ := List.length_eq_one_iff.mp l3
  have e3b : d__law_names [.tape, .fr (.int 1)] (some t2) = .ok (.lst [.str (S p)]) (some t3) := e3
  have at0 : L2.atI [DD.str (S p)] 0 = some (.str (S p)) := rfl
  generalize S p = s at *
  generalize hg : 2 + r2 = g at *
  have hb := newB_hl (t := t3) r1 g
  have kv : mergeD [] [(.inr (Str.ofString "price"), .int r1), (.inr (Str.ofString "free"), .int g), (.inr (Str.ofString "prices"), .ptr t3.st.length), (.inr (Str.ofString "sent"), .ptr (t3.st.length + 1)), (.inr (Str.ofString "came"), .ptr (t3.st.length + 1 + 1)), (.inr (Str.ofString "paid"), .ptr (t3.st.length + 1 + 1 + 1))] = kvB r1 g t3.st.length := kvB_is r1 g t3.st.length
  have kp : pushSt (pushSt (pushSt (pushSt t3 (.dK [])) (.dK [])) (.dT [])) (.dK []) = stX t3 ndsB := by
    unfold pushSt stX ndsB
    simp
  have sb : TS1 t3 (stX t3 ndsB) := TS1.stX
  generalize hB0 : newB r1 g t3.st.length = B0 at *
  generalize hkv : kvB r1 g t3.st.length = kvs at *
  have bd : BD kvs B0 := by rw [← hB0, ← hkv]; exact bdB _ _ _
  generalize stX t3 ndsB = tb at *
  have ha := newL_hl hb r1 g 3
  have ka := led_a (t := tb) (c := r1) (g := g) (o0 := x0) (o1 := some .tape) (o2 := o2) (o5 := some (.fr (.str s))) (o6 := some (.fr (.dic kvs))) (o7 := o7) (o8 := o8) (o9 := o9) (o10 := o10) (o11 := o11) (o12 := o12)
  have sa : TS1 tb (stX tb (ndsL tb.st.length r1 g 3)) := TS1.stX
  have pL : (newL tb.st.length r1 g 3).pl = tb.st.length := rfl
  have acL : (newL tb.st.length r1 g 3).accs = [] := rfl
  have bL : (newL tb.st.length r1 g 3).price = r1 ∧ (newL tb.st.length r1 g 3).free = g ∧ (newL tb.st.length r1 g 3).within = 3 ∧ (newL tb.st.length r1 g 3).prices = [] := ⟨rfl, rfl, rfl, rfl⟩
  generalize newL tb.st.length r1 g 3 = L at *
  generalize stX tb (ndsL tb.st.length r1 g 3) = ta at *
  have hw := newL_hl ha r1 g 3
  have kw := led_b (t := ta) (c := r1) (g := g) (o0 := x0) (o1 := some .tape) (o2 := o2) (o5 := some (.fr (.str s))) (o6 := some (.fr (.dic kvs))) (o7 := o7) (o8 := o8) (o9 := o9) (o10 := o10) (o11 := o11) (o12 := o12)
  have sw : TS1 ta (stX ta (ndsL ta.st.length r1 g 3)) := TS1.stX
  have pW : (newL ta.st.length r1 g 3).pl = ta.st.length := rfl
  have acW : (newL ta.st.length r1 g 3).accs = [] := rfl
  have bW : (newL ta.st.length r1 g 3).price = r1 ∧ (newL ta.st.length r1 g 3).free = g ∧ (newL ta.st.length r1 g 3).within = 3 ∧ (newL ta.st.length r1 g 3).prices = [] := ⟨rfl, rfl, rfl, rfl⟩
  generalize newL ta.st.length r1 g 3 = W at *
  generalize stX ta (ndsL ta.st.length r1 g 3) = tw at *
  rw [List.append_nil] at hw
  rw [← pL] at ka
  rw [← pW] at kw
  have Tw := (sb.trans (sa.trans sw)).tn T3
  obtain ⟨rows, q, t4, e4, T4, ro, ln, H4⟩ := sent_ok (s := s) Tw (by omega) bd (by rw [← hB0]; rfl) (by rw [← hB0]; rfl) (by rw [← hB0]; show 2 ≤ g ∧ g ≤ 32; omega) (hrot (hrot hw))
  obtain ⟨t5, accs, e5, s5, H5, A5⟩ := put_ok (s := s) (hrot (hrot H4)) acL (by rw [bL.2.2.1]; decide) ro (by omega)
  obtain ⟨r6, t6, e6, a6, c6, T6, y6⟩ := drw (s5.tn T4) (by omega) (m := 9) (by decide) (by decide)
  obtain ⟨k, rfl⟩ := Int.eq_ofNat_of_zero_le a6
  have BO : Bout r1 g L B0 kvs := ⟨bd, by omega, by omega, ⟨bL.1, bL.2.1, bL.2.2.1⟩, by rw [← hB0]; exact ⟨rfl, rfl⟩⟩
  have I0 : TI (N + 500) s q rows L B0 W 0 t6 accs [] [] := by
    refine ⟨T6.mono (by omega), ?_, ⟨0, A5, rfl⟩, ⟨Nat.zero_le _, fun _ h => (nomatch h)⟩, ⟨List.nodup_nil, Nat.le_refl _, fun _ h => (nomatch h)⟩⟩
    rw [y6]
    have z1 : ({ L with prices := [], accs := accs } : Lg) = { L with accs := accs } := by rw [← bL.2.2.2]
    have z2 : ({ bkR B0 s q rows with prices := [], paid := [] } : Bk) = bkR B0 s q rows := by rw [← hB0]; rfl
    rw [z1, z2]
    exact H5
  obtain ⟨ρ', τ', e7, t7, accs7, ps, pd, q10, q11, q12, rfl, I7, rfl⟩ := forL_inv (t := .nm 10) (δ := b_law_L2) (ds := rangeD 0 k) (ρ := [x0, some .tape, o2, some (.fr (.int r1)), some (.fr (.int g)), some (.fr (.str s)), some (.fr (.dic kvs)), some (.fr (.ptr L.pl)), some (.fr (.ptr W.pl)), some (.fr (.lst (rows.map i3))), o10, o11, o12]) (τ := some t6)
    (fun i ρ τ => ∃ t' accs ps pd q10 q11 q12, τ = some t' ∧ TI (N + 500) s q rows L B0 W i t' accs ps pd ∧ ρ = [x0, some .tape, o2, some (.fr (.int r1)), some (.fr (.int g)), some (.fr (.str s)), some (.fr (.dic kvs)), some (.fr (.ptr L.pl)), some (.fr (.ptr W.pl)), some (.fr (.lst (rows.map i3))), q10, q11, q12])
    ⟨t6, accs, [], [], o10, o11, o12, rfl, I0, rfl⟩ (by
      rintro i d ρ τ hd ⟨t', accs, ps, pd, q10, q11, q12, rfl, I, rfl⟩
      obtain ⟨hi, rfl⟩ := rangeD_get0 hd
      obtain ⟨t2, accs2, ps2, pd2, p11, p12, e, I2⟩ := turn_ok (o0 := x0) (o2 := o2) (o10 := some (.fr (.int (i : Int)))) (o11 := q11) (o12 := q12) BO ro ln (by omega) (by omega) I
      exact ⟨_, tgF_nm, _, some t2, .inl e, t2, accs2, ps2, pd2, _, p11, p12, rfl, I2, rfl⟩)
  rw [rangeD_len] at I7
  obtain ⟨T7, H7, ⟨P7, A7, hP7⟩, ⟨pl7, pk7⟩, po⟩ := I7
  have bd7 : BD kvs { bkR B0 s q rows with prices := ps, paid := pd } := ⟨bd.pr, bd.fr, bd.ps, bd.st, bd.cm, bd.pd⟩
  have so := sort_i (bat_of (hrot H7)).p (by show ps.length < 64; have := po.l; omega)
  obtain ⟨t8, p11, e8, s8, H8⟩ := twin_ok (o0 := x0) (o1 := some .tape) (o2 := o2) (o3 := some (.fr (.int r1))) (o4 := some (.fr (.int g))) (o5 := some (.fr (.str s))) (o7 := some (.fr (.ptr L.pl))) (o9 := some (.fr (.lst (rows.map i3)))) (o10 := q10) (o11 := q11) (o12 := q12) (hswap (hrot (hrot H7))) bd7 bW.2.2.2 po (by omega)
  obtain ⟨t9, accs9, e9, s9, H9, A9⟩ := put_ok (s := s) (rows := rows.reverse) H8 acW (by show 0 ≤ W.within; rw [bW.2.2.1]; decide) ro.rev (by rw [List.length_reverse]; omega)
  have T9 := (s8.trans s9).tn T7
  have nr := ne_rows (by decide) ro
  have rg : rgOk 0 (k : Int) := by unfold rgOk; omega
  have tn : ((k : Int)).toNat = k := by omega
  have b1 := bd.ps
  have rv : (rows.map i3).reverse = rows.reverse.map i3 := by rw [List.map_reverse]
  have rv2 : ((sortI (ps.map (·.1))).map DD.int).reverse = (sortI (ps.map (·.1))).reverse.map DD.int := by rw [List.map_reverse]
  have so2 : sdsort t7 B0.qp = some (.lst ((sortI (ps.map (·.1))).map DD.int)) := so
  refine ⟨t9, some (.fr (.int r1)), some (.fr (.int g)), some (.fr (.str s)), some (.fr (.dic kvs)), some (.fr (.ptr L.pl)), some (.fr (.ptr W.pl)), some (.fr (.lst (rows.map i3))), q10, p11, q12, ?_, T9.mono (by omega)⟩
  dsimp only at e8 e9
  by_cases hr : rows = []
  · subst hr
    have nr2 : gNeD (.lst []) (.lst []) = some (.bl false) := nr
    have e4b : d__law_sent [.tape, .fr (.dic kvs), .fr (.str s)] (some tw) = .ok (.lst []) (some t4) := e4
    have e5b : d__law_put [.fr (.ptr L.pl), .fr (.str s), .fr (.lst [])] (some t4) = .ok .non (some t5) := e5
    have e9b : d__law_put [.fr (.ptr W.pl), .fr (.str s), .fr (.lst [])] (some t8) = .ok .non (some t9) := e9
    simp only [List.map_nil] at e7 e8
    generalize sortI (ps.map (·.1)) = SS at *
    generalize SS.map DD.int = SD at *
    generalize SS.reverse.map DD.int = SR at *
    simp (disch := first | omega | (simp <;> omega) | fail) [if_pos, b_law_L1, b_law_L1_1, b_law_L1_2, b_law_L1_3, b_law_L1_4, b_law_L1_5, b_law_L1_6, b_law_L1_7, b_law_L1_8, e1, e2, hg, e3b, at0, kv, kp, ka, kw, e4b, e5b, e6, rg, tn, e7, b1, so2, rv2, e8, e9b, nr2]
  · cases A9 with
    | none h => exact (hr (by simpa using h)).elim
    | one aw _ h1 h2 h3 h4 =>
      have nd1 : ((rows.map fun p : Rw => (p.1, p.2.1)).map (·.1)).Nodup := by rw [fst_map _ fun _ => rfl]; exact ro.n
      have nd2 : ((rows.map fun p : Rw => (p.1, p.2.2)).map (·.1)).Nodup := by rw [fst_map _ fun _ => rfl]; exact ro.n
      have po9 := twin_ps po
      have pl9 := po.l
      obtain ⟨x, f1, f2, ⟨z, f3⟩, _⟩ := bout_rows (L := { W with prices := (sortI (ps.map (·.1))).reverse.map fun k => (k, g0 ps k), accs := [(s, aw)] }) (B := { bkR B0 s q rows with prices := ps, paid := pd }) (kvs := kvs) (q := q) (i := k) (a := aw) H9 (hrot H9) bd7 rfl hr ro (by decide) ln rfl rfl
        (fun n => by rw [h1, List.map_reverse]; exact al_perm (List.reverse_perm _) (by rw [List.map_reverse]; exact (List.reverse_perm _).nodup_iff.mpr nd1) n) (by rw [h1, List.map_reverse, List.map_reverse]; exact (List.reverse_perm _).nodup_iff.mpr nd1)
        (fun n => by rw [h2, List.map_reverse, al_perm (List.reverse_perm _) (by rw [List.map_reverse]; exact (List.reverse_perm _).nodup_iff.mpr nd2) n]) (by rw [h1, List.length_map, List.length_reverse])
        (bW.1.trans BO.hk.1.symm) (bW.2.1.trans BO.hk.2.symm) (by show 0 ≤ W.price ∧ W.price ≤ 1000000000; rw [bW.1]; omega) (by show 2 ≤ W.free ∧ W.free ≤ 32; rw [bW.2.1]; omega) (fun n => al_twin po n) po9 po (by omega)
      have o9 := objAt_o (lgAt_of H9).o
      have l2 := fg_account { W with prices := (sortI (ps.map (·.1))).reverse.map fun k => (k, g0 ps k), accs := [(s, aw)] }
      have nr2 : gNeD (.lst (rows.map i3)) (.lst []) = some (.bl true) := by rw [nr, decide_eq_false hr]; rfl
      dsimp only at o9 f1
      generalize lgF { W with prices := (sortI (ps.map (·.1))).reverse.map fun k => (k, g0 ps k), accs := [(s, aw)] } = F1 at *
      rw [← rv] at e9
      rw [← rv2] at e8
      generalize sortI (ps.map (·.1)) = SS at *
      generalize SS.map DD.int = SD at *
      generalize rows.map i3 = RR at *
      simp (disch := first | omega | (simp <;> omega) | fail) [if_pos, b_law_L1, b_law_L1_1, b_law_L1_2, b_law_L1_3, b_law_L1_4, b_law_L1_5, b_law_L1_6, b_law_L1_7, b_law_L1_8, e1, e2, hg, e3b, at0, kv, kp, ka, kw, e4, e5, e6, rg, tn, e7, b1, so2, e8, e9, nr2, eSMeN1_at o9, l2, f1, f2, f3]
theorem law_true (ns : List Int) (hn : ns.length ≤ 63) : ∃ τ, bodyF 13 b_law [.scr ns] none = .ok (.bl true) τ := by
  obtain ⟨ρ', τ', e, t', q2, q3, q4, q5, q6, q7, q8, q9, q10, q11, q12, rfl, T', rfl⟩ := forL_inv (t := .nm 2) (δ := b_law_L1) (ds := rangeD 0 4) (ρ := [some (.scr ns), some .tape, none, none, none, none, none, none, none, none, none, none, none]) (τ := some ⟨cells0 ns, 0, 0, []⟩)
    (fun i ρ τ => ∃ t' q2 q3 q4 q5 q6 q7 q8 q9 q10 q11 q12, τ = some t' ∧ Np.Tn (1000 * i) t' ∧ ρ = [some (.scr ns), some .tape, q2, q3, q4, q5, q6, q7, q8, q9, q10, q11, q12])
    ⟨_, none, none, none, none, none, none, none, none, none, none, none, rfl, ⟨Int.le_refl _, Int.le_refl _, Int.le_refl _⟩, rfl⟩ (by
      rintro i d ρ τ hd ⟨t', q2, q3, q4, q5, q6, q7, q8, q9, q10, q11, q12, rfl, T', rfl⟩
      obtain ⟨hi, rfl⟩ := rangeD_get0 hd
      obtain ⟨t2, p3, p4, p5, p6, p7, p8, p9, p10, p11, p12, e, T2⟩ := bout_ok (x0 := some (.scr ns)) (o2 := some (.fr (.int (i : Int)))) (o3 := q3) (o4 := q4) (o5 := q5) (o6 := q6) (o7 := q7) (o8 := q8) (o9 := q9) (o10 := q10) (o11 := q11) (o12 := q12) T' (by omega)
      exact ⟨_, tgF_nm, _, some t2, .inl e, t2, _, p3, p4, p5, p6, p7, p8, p9, p10, p11, p12, rfl, T2.mono (by omega), rfl⟩)
  refine ⟨none, ?_⟩
  rw [ev_body]
  show eBody (b_law [some (.scr ns), none, none, none, none, none, none, none, none, none, none, none, none] none) none = _
  simp [b_law, b_law_1, b_law_2, e]
end Nk64
set_option Elab.async false
set_option linter.all false
set_option maxRecDepth 100000
set_option maxHeartbeats 4000000
namespace Nk64
open PySem L2 Np
abbrev sp_AccountD_initD (K : PySem.W.Frag) (c : Ad) : Sp := spP (⟨K, c.cm, tkD, [], none⟩ : Wp) 1 d_AccountD_initD
theorem ok_AccountD_initD {P : Program} {w : World} {K : PySem.W.Frag} {mg : Str → Option Value} {base : Heap} {c : Ad} {f : Addr} {fd : FuncData} (T : Txt K mg c) (F : Fun K "__init__" "Account.__init__" s_AccountD_initD f fd)
     : FnG P w K mg base CX0 1 f fd ps_AccountD_initD (sp_AccountD_initD K c) := by
  refine Fun.okG F sc_AccountD_initD (fun vs H Q E h => ?_) (fun cdv A outer s H vs Q E hgd hr h => ?_)
  · exact h.1
  · refine ⟨_, (pss_cons (ps_fldK K (pv 0) pe_dnewK (by rfl))
      (pss_cons (ps_fldK K (pv 0) pe_dnewK (by rfl))
      (pss_one (ps_fldK K (pv 0) pe_int (by rfl))))), ?_⟩
    exact body_ok (W := (⟨K, c.cm, tkD, [], none⟩ : Wp)) (N := nm_AccountD_initD) (k := 1) (δ := b_AccountD_initD)
      ((ds_seq (ds_sfset (cls := "Account") (f := "sent") (fun _ _ _ => rfl) (by dsimp only; rw [T.cm_Account]; exact T.cls_Account) (by dsimp only; rw [T.cm_Account]; exact T.no_Account_sent) (dn_v (i := 0)) (dn_newK (fun _ _ _ => rfl)))
      (ds_seq (ds_sfset (cls := "Account") (f := "came") (fun _ _ _ => rfl) (by dsimp only; rw [T.cm_Account]; exact T.cls_Account) (by dsimp only; rw [T.cm_Account]; exact T.no_Account_came) (dn_v (i := 0)) (dn_newK (fun _ _ _ => rfl)))
      (ds_sfset (cls := "Account") (f := "paid") (fun _ _ _ => rfl) (by dsimp only; rw [T.cm_Account]; exact T.cls_Account) (by dsimp only; rw [T.cm_Account]; exact T.no_Account_paid) (dn_v (i := 0)) dn_int)))) h
abbrev sp_Account_out_of (K : PySem.W.Frag) (c : Ad) : Sp := spP (⟨K, c.cm, tkD, [], none⟩ : Wp) 2 d_Account_out_of
theorem ok_Account_out_of {P : Program} {w : World} {K : PySem.W.Frag} {mg : Str → Option Value} {base : Heap} {c : Ad} {f : Addr} {fd : FuncData} (T : Txt K mg c) (F : Fun K "out_of" "Account.out_of" s_Account_out_of f fd)
     : FnG P w K mg base CX0 1 f fd ps_Account_out_of (sp_Account_out_of K c) := by
  refine Fun.okG F sc_Account_out_of (fun vs H Q E h => ?_) (fun cdv A outer s H vs Q E hgd hr h => ?_)
  · exact h.1
  · refine ⟨_, (pss_one (ps_ret (pe_op op_sub (pe_dget2 (hu_of' hr) (pe_fldK K (pv 0)) (pv 1) pe_int ⟨rfl, rfl, rfl, rfl⟩) (pe_dget2 (hu_of' hr) (pe_fldK K (pv 0)) (pv 1) pe_int ⟨rfl, rfl, rfl, rfl⟩)))), ?_⟩
    exact body_ok (W := (⟨K, c.cm, tkD, [], none⟩ : Wp)) (N := nm_Account_out_of) (k := 2) (δ := b_Account_out_of)
      ((ds_ret (dn_op od_sub (dn_sdget2 (dn_sfld (cls := "Account") (by dsimp only; rw [T.cm_Account]; exact T.cls_Account) (by dsimp only; rw [T.cm_Account]; exact T.no_Account_sent) (dn_v (i := 0))) (dn_v (i := 1)) dn_int) (dn_sdget2 (dn_sfld (cls := "Account") (by dsimp only; rw [T.cm_Account]; exact T.cls_Account) (by dsimp only; rw [T.cm_Account]; exact T.no_Account_came) (dn_v (i := 0))) (dn_v (i := 1)) dn_int)))) h
abbrev sp_Account_nights_told (K : PySem.W.Frag) (c : Ad) : Sp := spP (⟨K, c.cm, tkD, [], none⟩ : Wp) 1 d_Account_nights_told
theorem ok_Account_nights_told {P : Program} {w : World} {K : PySem.W.Frag} {mg : Str → Option Value} {base : Heap} {c : Ad} {f : Addr} {fd : FuncData} (T : Txt K mg c) (F : Fun K "nights_told" "Account.nights_told" s_Account_nights_told f fd)
     : FnG P w K mg base CX0 1 f fd ps_Account_nights_told (sp_Account_nights_told K c) := by
  refine Fun.okG F sc_Account_nights_told (fun vs H Q E h => ?_) (fun cdv A outer s H vs Q E hgd hr h => ?_)
  · exact h.1
  · refine ⟨_, (pss_one (ps_ret (pe_lc (own := [("night", 1)]) (g := gName 1) (tt := tYes) (by rfl) sc_Account_nights_told.nd (pi_listK K (pe_callB (cr_sortDK rfl) (by rfl) T.b_sorted (by decide +kernel) (pa_cons (pe_fldK K (pv 0)) pa_nil))) (blkOk_by (own := [("night", 1)]) (N := nm_Account_nights_told) (sc := defScope s_Account_nights_told) (by decide +kernel)) (fun _ _ _ _ _ => (pg_name (i := 1) sc_Account_nights_told.nd rfl (Or.inl rfl))) (fun _ _ _ _ _ => pts_nil) (fun _ _ _ _ _ => (pe_tup (pa_cons (pv 1) (pa_cons (pe_dget (hu_of' hr) (pe_fldK K (pv 0)) (pv 1) (fun _ _ => rfl)) (pa_cons (pe_dget2 (hu_of' hr) (pe_fldK K (pv 0)) (pv 1) pe_int ⟨rfl, rfl, rfl, rfl⟩) pa_nil)))))))), ?_⟩
    exact body_ok (W := (⟨K, c.cm, tkD, [], none⟩ : Wp)) (N := nm_Account_nights_told) (k := 1) (δ := b_Account_nights_told)
      ((ds_ret (dn_lc (t := (.nm 1)) (vs := [1]) rfl (di_list (dn_sortDK (da_cons (dn_sfld (cls := "Account") (by dsimp only; rw [T.cm_Account]; exact T.cls_Account) (by dsimp only; rw [T.cm_Account]; exact T.no_Account_sent) (dn_v (i := 0))) da_nil))) dt_yes (dn_tup (da_cons (dn_v (i := 1)) (da_cons (dn_sdget (dn_sfld (cls := "Account") (by dsimp only; rw [T.cm_Account]; exact T.cls_Account) (by dsimp only; rw [T.cm_Account]; exact T.no_Account_sent) (dn_v (i := 0))) (dn_v (i := 1))) (da_cons (dn_sdget2 (dn_sfld (cls := "Account") (by dsimp only; rw [T.cm_Account]; exact T.cls_Account) (by dsimp only; rw [T.cm_Account]; exact T.no_Account_came) (dn_v (i := 0))) (dn_v (i := 1)) dn_int) da_nil))))))) h
abbrev sp_LedgerD_initD (K : PySem.W.Frag) (c : Ad) : Sp := spP (⟨K, c.cm, tkD, [], none⟩ : Wp) 4 d_LedgerD_initD
theorem ok_LedgerD_initD {P : Program} {w : World} {K : PySem.W.Frag} {mg : Str → Option Value} {base : Heap} {c : Ad} {f : Addr} {fd : FuncData} (T : Txt K mg c) (F : FunD K "__init__" "Ledger.__init__" (defArgs s_LedgerD_initD) (defBody s_LedgerD_initD) (defScope s_LedgerD_initD) [(.int 2), (.int 13), (.int 3)] [] f fd)
     : FnG P w K mg base CX0 1 f fd ps_LedgerD_initD (sp_LedgerD_initD K c) := by
  refine FunD.okG (CX := CX0) F sc_LedgerD_initD (fun vs H Q E h => ?_) (fun cdv A outer s H vs Q E hgd hr h => ?_)
  · exact h.1
  · refine ⟨_, PSs.nox ((pss_cons (ps_fldK K (pv 0) (pv 1) (by rfl))
      (pss_cons (ps_fldK K (pv 0) (pv 2) (by rfl))
      (pss_cons (ps_fldK K (pv 0) (pv 3) (by rfl))
      (pss_cons (ps_fldK K (pv 0) pe_dnewK (by rfl))
      (pss_one (ps_fldK K (pv 0) pe_dnewK (by rfl)))))))), ?_⟩
    exact body_ok (W := (⟨K, c.cm, tkD, [], none⟩ : Wp)) (N := nm_LedgerD_initD) (k := 4) (δ := b_LedgerD_initD)
      ((ds_seq (ds_sfset (cls := "Ledger") (f := "price") (fun _ _ _ => rfl) (by dsimp only; rw [T.cm_Ledger]; exact T.cls_Ledger) (by dsimp only; rw [T.cm_Ledger]; exact T.no_Ledger_price) (dn_v (i := 0)) (dn_v (i := 1)))
      (ds_seq (ds_sfset (cls := "Ledger") (f := "free") (fun _ _ _ => rfl) (by dsimp only; rw [T.cm_Ledger]; exact T.cls_Ledger) (by dsimp only; rw [T.cm_Ledger]; exact T.no_Ledger_free) (dn_v (i := 0)) (dn_v (i := 2)))
      (ds_seq (ds_sfset (cls := "Ledger") (f := "within") (fun _ _ _ => rfl) (by dsimp only; rw [T.cm_Ledger]; exact T.cls_Ledger) (by dsimp only; rw [T.cm_Ledger]; exact T.no_Ledger_within) (dn_v (i := 0)) (dn_v (i := 3)))
      (ds_seq (ds_sfset (cls := "Ledger") (f := "told_prices") (fun _ _ _ => rfl) (by dsimp only; rw [T.cm_Ledger]; exact T.cls_Ledger) (by dsimp only; rw [T.cm_Ledger]; exact T.no_Ledger_told_prices) (dn_v (i := 0)) (dn_newK (fun _ _ _ => rfl)))
      (ds_sfset (cls := "Ledger") (f := "accounts") (fun _ _ _ => rfl) (by dsimp only; rw [T.cm_Ledger]; exact T.cls_Ledger) (by dsimp only; rw [T.cm_Ledger]; exact T.no_Ledger_accounts) (dn_v (i := 0)) (dn_newK (fun _ _ _ => rfl)))))))) h
end Nk64
set_option Elab.async false
set_option linter.all false
set_option maxRecDepth 100000
set_option maxHeartbeats 4000000
namespace Nk64
open PySem L2 Np
abbrev sp_Ledger_account_of (K : PySem.W.Frag) (c : Ad) : Sp := spP (⟨K, c.cm, tkD, [], none⟩ : Wp) 2 d_Ledger_account_of
theorem ok_Ledger_account_of {P : Program} {w : World} {K : PySem.W.Frag} {mg : Str → Option Value} {base : Heap} {c : Ad} {f : Addr} {fd : FuncData} (T : Txt K mg c) (F : Fun K "account_of" "Ledger.account_of" s_Ledger_account_of f fd)
     : FnG P w K mg base CX0 4 f fd ps_Ledger_account_of (sp_Ledger_account_of K c) := by
  refine Fun.okG F sc_Ledger_account_of (fun vs H Q E h => ?_) (fun cdv A outer s H vs Q E hgd hr h => ?_)
  · exact h.1
  · refine ⟨_, (pss_cons (ps_try_trk (i := 3) rfl rfl rfl sc_Ledger_account_of.nd rfl rfl ⟨rfl, by decide, .inr ⟨T.b_KeyError, (show bootBuiltins "KeyError" = some (.type "KeyError") by decide +kernel), by decide +kernel⟩⟩ takes0
      (fun W pn xe tk po => (pss_one (ps_set (i := 2) sc_Ledger_account_of.nd rfl (Or.inl rfl) (pe_dget (hu_of' hr) (pe_fldK K (pv 0)) (pv 1) (fun _ _ => rfl)))))
      (fun _ _ => (pss_one (ps_never))))
      (pss_one (ps_ret (pv 2)))), ?_⟩
    exact body_okN (W := (⟨K, c.cm, tkD, [], none⟩ : Wp)) (N := nm_Ledger_account_of) (k := 2) (δ := b_Ledger_account_of)
      ((ds_seq (ds_tryH (i := 3) (c := .type "KeyError") (exm := tb0) tb0_ok (fun Wz => (ds_set (dn_sdget (dn_sfld (cls := "Ledger") (by dsimp only; rw [T.cm_Ledger]; exact T.cls_Ledger) (by dsimp only; rw [T.cm_Ledger]; exact T.no_Ledger_accounts) (dn_v (i := 0))) (dn_v (i := 1))))) ds_never)
      (ds_ret (dn_v (i := 2))))) h
abbrev sp_Ledger_price_at (K : PySem.W.Frag) (c : Ad) : Sp := spP (⟨K, c.cm, tkD, [], none⟩ : Wp) 2 d_Ledger_price_at
theorem ok_Ledger_price_at {P : Program} {w : World} {K : PySem.W.Frag} {mg : Str → Option Value} {base : Heap} {c : Ad} {f : Addr} {fd : FuncData} (T : Txt K mg c) (F : Fun K "price_at" "Ledger.price_at" s_Ledger_price_at f fd)
     : FnG P w K mg base CX0 1 f fd ps_Ledger_price_at (sp_Ledger_price_at K c) := by
  refine Fun.okG F sc_Ledger_price_at (fun vs H Q E h => ?_) (fun cdv A outer s H vs Q E hgd hr h => ?_)
  · exact h.1
  · refine ⟨_, (pss_cons (ps_set (i := 2) sc_Ledger_price_at.nd rfl (Or.inl rfl) (pe_callBK (cr_maxD rfl hr) rfl T.b_max (by decide +kernel) (pa_cons (pe_lock (pe_lc (own := [("first", 3)]) (g := gName 3) (by rfl) sc_Ledger_price_at.nd (pi_keys (pe_fldK K (pv 0))) (blkOk_by (own := [("first", 3)]) (N := nm_Ledger_price_at) (sc := defScope s_Ledger_price_at) (by decide +kernel)) (fun _ _ _ _ _ => (pg_name (i := 3) sc_Ledger_price_at.nd rfl (Or.inl rfl))) (fun _ _ _ _ _ => (pts_one (pt_cmpR op_le (pv 3) (pv 1) (nomark _)))) (fun _ _ _ _ _ => (pv 3)))) pa_nil) (pk_cons pe_non pk_nil)))
      (pss_one (ps_ret (pe_ifExp (pt_cmpR op_isN (pv 2) pe_non (nomark _)) (pe_fldK K (pv 0)) (pe_dget (hu_of' hr) (pe_fldK K (pv 0)) (pv 2) (fun _ _ => rfl)))))), ?_⟩
    exact body_ok (W := (⟨K, c.cm, tkD, [], none⟩ : Wp)) (N := nm_Ledger_price_at) (k := 2) (δ := b_Ledger_price_at)
      ((ds_seq (ds_set (dn_maxD (da_cons (dn_keysLe (cls := "Ledger") (f := "told_prices") (v := 0) (i := 1) (j := 3) (by dsimp only; rw [T.cm_Ledger]; exact T.cls_Ledger) (by dsimp only; rw [T.cm_Ledger]; exact T.no_Ledger_told_prices) (by decide)) da_nil)))
      (ds_ret (dn_if (dt_test (dn_op od_isN (dn_v (i := 2)) dn_non)) (dn_sfld (cls := "Ledger") (by dsimp only; rw [T.cm_Ledger]; exact T.cls_Ledger) (by dsimp only; rw [T.cm_Ledger]; exact T.no_Ledger_price) (dn_v (i := 0))) (dn_sdget (dn_sfld (cls := "Ledger") (by dsimp only; rw [T.cm_Ledger]; exact T.cls_Ledger) (by dsimp only; rw [T.cm_Ledger]; exact T.no_Ledger_told_prices) (dn_v (i := 0))) (dn_v (i := 2))))))) h
abbrev sp_Ledger_cost_of (K : PySem.W.Frag) (c : Ad) : Sp := spP (⟨K, c.cm, tkD, [], none⟩ : Wp) 3 d_Ledger_cost_of
theorem ok_Ledger_cost_of {P : Program} {w : World} {K : PySem.W.Frag} {mg : Str → Option Value} {base : Heap} {c : Ad} {f : Addr} {fd : FuncData} (T : Txt K mg c) (F : Fun K "cost_of" "Ledger.cost_of" s_Ledger_cost_of f fd)
    (ME_Ledger_price_at : MeC P w K mg base CX0 1 c.Ledger "price_at" ps_Ledger_price_at (sp_Ledger_price_at K c)) : FnG P w K mg base CX0 2 f fd ps_Ledger_cost_of (sp_Ledger_cost_of K c) := by
  refine Fun.okG F sc_Ledger_cost_of (fun vs H Q E h => ?_) (fun cdv A outer s H vs Q E hgd hr h => ?_)
  · exact h.1
  · refine ⟨_, (pss_one (ps_ret (pe_op op_mul (pe_op op_sub (pv 2) (pe_op op_fdivN (pv 2) (pe_fldK K (pv 0)))) (pe_mG ME_Ledger_price_at T.cls_Ledger hgd (hr.mono (by decide)) pass0At (pv 0) (pa_cons (pv 1) pa_nil))))), ?_⟩
    exact body_ok (W := (⟨K, c.cm, tkD, [], none⟩ : Wp)) (N := nm_Ledger_cost_of) (k := 3) (δ := b_Ledger_cost_of)
      ((ds_ret (dn_op od_mul (dn_op od_sub (dn_v (i := 2)) (dn_op od_fdivN (dn_v (i := 2)) (dn_sfld (cls := "Ledger") (by dsimp only; rw [T.cm_Ledger]; exact T.cls_Ledger) (by dsimp only; rw [T.cm_Ledger]; exact T.no_Ledger_free) (dn_v (i := 0))))) (dn_smeN (k := 2) (cls := "Ledger") (m := "price_at") (F := d_Ledger_price_at) T.cm_Ledger (dn_v (i := 0)) (dps_cons (dp_e (dn_v (i := 1))) dps_nil))))) h
end Nk64
set_option Elab.async false
set_option linter.all false
set_option maxRecDepth 100000
set_option maxHeartbeats 4000000
namespace Nk64
open PySem L2 Np
abbrev sp_Ledger_send (K : PySem.W.Frag) (c : Ad) : Sp := spP (⟨K, c.cm, tkD, [], none⟩ : Wp) 4 d_Ledger_send
theorem ok_Ledger_send {P : Program} {w : World} {K : PySem.W.Frag} {mg : Str → Option Value} {base : Heap} {c : Ad} {f : Addr} {fd : FuncData} (T : Txt K mg c) (F : Fun K "send" "Ledger.send" s_Ledger_send f fd)
    (MC_Account_0_ : MkC P w K mg base CX0 1 c.Account ps_AccountD_initD (sp_AccountD_initD K c) 0 [] (pickL [] (.a 0 :: [].map shIx))) : FnG P w K mg base CX0 3 f fd ps_Ledger_send (sp_Ledger_send K c) := by
  refine Fun.okG F sc_Ledger_send (fun vs H Q E h => ?_) (fun cdv A outer s H vs Q E hgd hr h => ?_)
  · exact h.1
  · refine ⟨_, (pss_cons (ps_set (i := 4) sc_Ledger_send.nd rfl (Or.inl rfl) (pe_dsetd (pe_fldK K (pv 0)) (pv 1) (pe_mkG0 MC_Account_0_ hgd (hr.mono (by decide)) T.g_Account pass0At pk_nil) ⟨rfl, rfl, rfl, rfl⟩))
      (pss_one (ps_asg (pe_op op_add (pe_dget2 (hu_of' hr) (pe_fldK K (pv 4)) (pv 2) pe_int ⟨rfl, rfl, rfl, rfl⟩) (pv 3)) (pg_sub (pe_fldK K (pv 4)) (pv 2) (set_dict (hu_of' hr)))))), ?_⟩
    exact body_ok (W := (⟨K, c.cm, tkD, [], none⟩ : Wp)) (N := nm_Ledger_send) (k := 4) (δ := b_Ledger_send)
      ((ds_seq (ds_set (dn_setd (fun _ _ _ => rfl) (dn_sfld (cls := "Ledger") (by dsimp only; rw [T.cm_Ledger]; exact T.cls_Ledger) (by dsimp only; rw [T.cm_Ledger]; exact T.no_Ledger_accounts) (dn_v (i := 0))) (dn_v (i := 1)) (dn_mkSN (k := 1) (cls := "Account") (F := d_AccountD_initD) (dv := []) (ix := []) (fun _ _ _ => rfl) T.cm_Account (fun _ _ => .nil) dps_nil dps_nil)))
      (ds_dPut (fun _ _ _ => rfl) (dn_sfld (cls := "Account") (by dsimp only; rw [T.cm_Account]; exact T.cls_Account) (by dsimp only; rw [T.cm_Account]; exact T.no_Account_sent) (dn_v (i := 4))) (dn_v (i := 2)) (dn_op od_add (dn_sdget2 (dn_sfld (cls := "Account") (by dsimp only; rw [T.cm_Account]; exact T.cls_Account) (by dsimp only; rw [T.cm_Account]; exact T.no_Account_sent) (dn_v (i := 4))) (dn_v (i := 2)) dn_int) (dn_v (i := 3)))))) h
abbrev sp_Ledger_back (K : PySem.W.Frag) (c : Ad) : Sp := spP (⟨K, c.cm, tkD, [], none⟩ : Wp) 5 d_Ledger_back
theorem ok_Ledger_back {P : Program} {w : World} {K : PySem.W.Frag} {mg : Str → Option Value} {base : Heap} {c : Ad} {f : Addr} {fd : FuncData} (T : Txt K mg c) (F : Fun K "back" "Ledger.back" s_Ledger_back f fd)
    (ME_Ledger_account_of : MeC P w K mg base CX0 4 c.Ledger "account_of" ps_Ledger_account_of (sp_Ledger_account_of K c))
    (ME_Account_out_of : MeC P w K mg base CX0 1 c.Account "out_of" ps_Account_out_of (sp_Account_out_of K c)) : FnG P w K mg base CX0 5 f fd ps_Ledger_back (sp_Ledger_back K c) := by
  refine Fun.okG F sc_Ledger_back (fun vs H Q E h => ?_) (fun cdv A outer s H vs Q E hgd hr h => ?_)
  · exact h.1
  · refine ⟨_, (pss_cons (ps_set (i := 5) sc_Ledger_back.nd rfl (Or.inl rfl) (pe_mG ME_Ledger_account_of T.cls_Ledger hgd (hr.mono (by decide)) pass0At (pv 0) (pa_cons (pv 1) pa_nil)))
      (pss_cons (ps_if (pt_cmpR op_gt (pv 3) (pe_op op_add (pv 2) (pe_fldK K (pv 0))) (nomark _))
      (pss_one (ps_never))
      pss_nil)
      (pss_cons (ps_if (pt_cmpR op_gt (pv 4) (pe_mG ME_Account_out_of T.cls_Account hgd (hr.mono (by decide)) pass0At (pv 5) (pa_cons (pv 2) pa_nil)) (nomark _))
      (pss_one (ps_never))
      pss_nil)
      (pss_one (ps_asg (pe_op op_add (pe_dget2 (hu_of' hr) (pe_fldK K (pv 5)) (pv 2) pe_int ⟨rfl, rfl, rfl, rfl⟩) (pv 4)) (pg_sub (pe_fldK K (pv 5)) (pv 2) (set_dict (hu_of' hr)))))))), ?_⟩
    exact body_ok (W := (⟨K, c.cm, tkD, [], none⟩ : Wp)) (N := nm_Ledger_back) (k := 5) (δ := b_Ledger_back)
      ((ds_seq (ds_set (dn_smeN (k := 2) (cls := "Ledger") (m := "account_of") (F := d_Ledger_account_of) T.cm_Ledger (dn_v (i := 0)) (dps_cons (dp_e (dn_v (i := 1))) dps_nil)))
      (ds_seq (ds_if (dt_test (dn_op od_gt (dn_v (i := 3)) (dn_op od_add (dn_v (i := 2)) (dn_sfld (cls := "Ledger") (by dsimp only; rw [T.cm_Ledger]; exact T.cls_Ledger) (by dsimp only; rw [T.cm_Ledger]; exact T.no_Ledger_within) (dn_v (i := 0))))))
      ds_never
      ds_next)
      (ds_seq (ds_if (dt_test (dn_op od_gt (dn_v (i := 4)) (dn_smeN (k := 2) (cls := "Account") (m := "out_of") (F := d_Account_out_of) T.cm_Account (dn_v (i := 5)) (dps_cons (dp_e (dn_v (i := 2))) dps_nil))))
      ds_never
      ds_next)
      (ds_dPut (fun _ _ _ => rfl) (dn_sfld (cls := "Account") (by dsimp only; rw [T.cm_Account]; exact T.cls_Account) (by dsimp only; rw [T.cm_Account]; exact T.no_Account_came) (dn_v (i := 5))) (dn_v (i := 2)) (dn_op od_add (dn_sdget2 (dn_sfld (cls := "Account") (by dsimp only; rw [T.cm_Account]; exact T.cls_Account) (by dsimp only; rw [T.cm_Account]; exact T.no_Account_came) (dn_v (i := 5))) (dn_v (i := 2)) dn_int) (dn_v (i := 4)))))))) h
abbrev sp_Ledger_pay (K : PySem.W.Frag) (c : Ad) : Sp := spP (⟨K, c.cm, tkD, [], none⟩ : Wp) 3 d_Ledger_pay
theorem ok_Ledger_pay {P : Program} {w : World} {K : PySem.W.Frag} {mg : Str → Option Value} {base : Heap} {c : Ad} {f : Addr} {fd : FuncData} (T : Txt K mg c) (F : Fun K "pay" "Ledger.pay" s_Ledger_pay f fd)
    (ME_Ledger_account_of : MeC P w K mg base CX0 4 c.Ledger "account_of" ps_Ledger_account_of (sp_Ledger_account_of K c)) : FnG P w K mg base CX0 5 f fd ps_Ledger_pay (sp_Ledger_pay K c) := by
  refine Fun.okG F sc_Ledger_pay (fun vs H Q E h => ?_) (fun cdv A outer s H vs Q E hgd hr h => ?_)
  · exact h.1
  · refine ⟨_, (pss_cons (ps_set (i := 3) sc_Ledger_pay.nd rfl (Or.inl rfl) (pe_mG ME_Ledger_account_of T.cls_Ledger hgd (hr.mono (by decide)) pass0At (pv 0) (pa_cons (pv 1) pa_nil)))
      (pss_one (ps_fldaugK K (pv 3) (pv 2) in_add))), ?_⟩
    exact body_ok (W := (⟨K, c.cm, tkD, [], none⟩ : Wp)) (N := nm_Ledger_pay) (k := 3) (δ := b_Ledger_pay)
      ((ds_seq (ds_set (dn_smeN (k := 2) (cls := "Ledger") (m := "account_of") (F := d_Ledger_account_of) T.cm_Ledger (dn_v (i := 0)) (dps_cons (dp_e (dn_v (i := 1))) dps_nil)))
      (ds_sfaug (cls := "Account") (f := "paid") (fun _ _ _ => rfl) (by dsimp only; rw [T.cm_Account]; exact T.cls_Account) (by dsimp only; rw [T.cm_Account]; exact T.no_Account_paid) od_add (dn_v (i := 3)) (dn_v (i := 2))))) h
abbrev sp_Ledger_price_from (K : PySem.W.Frag) (c : Ad) : Sp := spP (⟨K, c.cm, tkD, [], none⟩ : Wp) 3 d_Ledger_price_from
theorem ok_Ledger_price_from {P : Program} {w : World} {K : PySem.W.Frag} {mg : Str → Option Value} {base : Heap} {c : Ad} {f : Addr} {fd : FuncData} (T : Txt K mg c) (F : Fun K "price_from" "Ledger.price_from" s_Ledger_price_from f fd)
     : FnG P w K mg base CX0 1 f fd ps_Ledger_price_from (sp_Ledger_price_from K c) := by
  refine Fun.okG F sc_Ledger_price_from (fun vs H Q E h => ?_) (fun cdv A outer s H vs Q E hgd hr h => ?_)
  · exact h.1
  · refine ⟨_, (pss_one (ps_asg (pv 2) (pg_sub (pe_fldK K (pv 0)) (pv 1) (set_dict (hu_of' hr))))), ?_⟩
    exact body_ok (W := (⟨K, c.cm, tkD, [], none⟩ : Wp)) (N := nm_Ledger_price_from) (k := 3) (δ := b_Ledger_price_from)
      ((ds_dPut (fun _ _ _ => rfl) (dn_sfld (cls := "Ledger") (by dsimp only; rw [T.cm_Ledger]; exact T.cls_Ledger) (by dsimp only; rw [T.cm_Ledger]; exact T.no_Ledger_told_prices) (dn_v (i := 0))) (dn_v (i := 1)) (dn_v (i := 2)))) h
end Nk64
set_option Elab.async false
set_option linter.all false
set_option maxRecDepth 100000
set_option maxHeartbeats 4000000
namespace Nk64
open PySem L2 Np
abbrev sp_Ledger_account (K : PySem.W.Frag) (c : Ad) : Sp := spP (⟨K, c.cm, tkD, [], none⟩ : Wp) 2 d_Ledger_account
theorem ok_Ledger_account {P : Program} {w : World} {K : PySem.W.Frag} {mg : Str → Option Value} {base : Heap} {c : Ad} {f : Addr} {fd : FuncData} (T : Txt K mg c) (F : Fun K "account" "Ledger.account" s_Ledger_account f fd)
    (ME_Account_nights_told : MeC P w K mg base CX0 1 c.Account "nights_told" ps_Account_nights_told (sp_Account_nights_told K c))
    (ME_Ledger_account_of : MeC P w K mg base CX0 4 c.Ledger "account_of" ps_Ledger_account_of (sp_Ledger_account_of K c))
    (ME_Ledger_cost_of : MeC P w K mg base CX0 2 c.Ledger "cost_of" ps_Ledger_cost_of (sp_Ledger_cost_of K c)) : FnG P w K mg base CX0 5 f fd ps_Ledger_account (sp_Ledger_account K c) := by
  refine Fun.okG F sc_Ledger_account (fun vs H Q E h => ?_) (fun cdv A outer s H vs Q E hgd hr h => ?_)
  · exact h.1
  · refine ⟨_, (pss_cons (ps_set (i := 2) sc_Ledger_account.nd rfl (Or.inl rfl) (pe_lst pa_nil))
      (pss_cons (ps_for PassesOwn.never rfl (pi_listK K (pe_mG0 ME_Account_nights_told T.cls_Account hgd (hr.mono (by decide)) pass0At (pe_mG ME_Ledger_account_of T.cls_Ledger hgd (hr.mono (by decide)) pass0At (pv 0) (pa_cons (pv 1) pa_nil)))) (pg_tupK (n := 3) K (by rfl) (pgs_cons (pg_name (i := 3) sc_Ledger_account.nd rfl (Or.inl rfl)) (pgs_cons (pg_name (i := 4) sc_Ledger_account.nd rfl (Or.inl rfl)) (pgs_cons (pg_name (i := 5) sc_Ledger_account.nd rfl (Or.inl rfl)) pgs_nil))))
      (pss_one (ps_expr (pe_bmK K PySem.F.plainAttrs_list PySem.F.slot_list_append PySem.F.type_list_append mt_append (pv 2) (pa_cons (pe_tup (pa_cons (pv 3) (pa_cons (pv 4) (pa_cons (pv 5) (pa_cons (pe_mG ME_Ledger_cost_of T.cls_Ledger hgd (hr.mono (by decide)) pass0At (pv 0) (pa_cons (pv 3) (pa_cons (pe_op op_sub (pv 4) (pv 5)) pa_nil))) pa_nil))))) pa_nil)))))
      (pss_one (ps_ret (pv 2))))), ?_⟩
    exact body_ok (W := (⟨K, c.cm, tkD, [], none⟩ : Wp)) (N := nm_Ledger_account) (k := 2) (δ := b_Ledger_account)
      ((ds_seq (ds_setO (df_lst da_nil))
      (ds_seq (ds_for (g := (.tp [(.nm 3), (.nm 4), (.nm 5)])) (di_list (dn_smeN (k := 1) (cls := "Account") (m := "nights_told") (F := d_Account_nights_told) T.cm_Account (dn_smeN (k := 2) (cls := "Ledger") (m := "account_of") (F := d_Ledger_account_of) T.cm_Ledger (dn_v (i := 0)) (dps_cons (dp_e (dn_v (i := 1))) dps_nil)) dps_nil))
      (ds_app (i := 2) (dn_tup (da_cons (dn_v (i := 3)) (da_cons (dn_v (i := 4)) (da_cons (dn_v (i := 5)) (da_cons (dn_smeN (k := 3) (cls := "Ledger") (m := "cost_of") (F := d_Ledger_cost_of) T.cm_Ledger (dn_v (i := 0)) (dps_cons (dp_e (dn_v (i := 3))) (dps_cons (dp_e (dn_op od_sub (dn_v (i := 4)) (dn_v (i := 5)))) dps_nil))) da_nil)))))))
      (ds_frz (i := 2) (ds_ret (dn_v (i := 2))))))) h
abbrev sp_Ledger_owes (K : PySem.W.Frag) (c : Ad) : Sp := spP (⟨K, c.cm, tkD, [], none⟩ : Wp) 2 d_Ledger_owes
theorem ok_Ledger_owes {P : Program} {w : World} {K : PySem.W.Frag} {mg : Str → Option Value} {base : Heap} {c : Ad} {f : Addr} {fd : FuncData} (T : Txt K mg c) (F : Fun K "owes" "Ledger.owes" s_Ledger_owes f fd)
    (ME_Ledger_account : MeC P w K mg base CX0 5 c.Ledger "account" ps_Ledger_account (sp_Ledger_account K c))
    (ME_Ledger_account_of : MeC P w K mg base CX0 4 c.Ledger "account_of" ps_Ledger_account_of (sp_Ledger_account_of K c)) : FnG P w K mg base CX0 6 f fd ps_Ledger_owes (sp_Ledger_owes K c) := by
  refine Fun.okG F sc_Ledger_owes (fun vs H Q E h => ?_) (fun cdv A outer s H vs Q E hgd hr h => ?_)
  · exact h.1
  · refine ⟨_, (pss_one (ps_ret (pe_callBK (cr_sumS rfl K) rfl T.b_sum (by decide +kernel) (pa_cons (pe_lc (own := [("row", 2)]) (g := gName 2) (tt := tYes) (by rfl) sc_Ledger_owes.nd (pi_listK K (pe_mG ME_Ledger_account T.cls_Ledger hgd (hr.mono (by decide)) pass0At (pv 0) (pa_cons (pv 1) pa_nil))) (blkOk_by (own := [("row", 2)]) (N := nm_Ledger_owes) (sc := defScope s_Ledger_owes) (by decide +kernel)) (fun _ _ _ _ _ => (pg_name (i := 2) sc_Ledger_owes.nd rfl (Or.inl rfl))) (fun _ _ _ _ _ => pts_nil) (fun _ _ _ _ _ => (pe_ix (ix_tupK K) (pv 2) pe_int (fun _ _ => rfl)))) pa_nil) (pk_cons (pe_op op_sub pe_int (pe_fldK K (pe_mG ME_Ledger_account_of T.cls_Ledger hgd (hr.mono (by decide)) pass0At (pv 0) (pa_cons (pv 1) pa_nil)))) pk_nil)))), ?_⟩
    exact body_ok (W := (⟨K, c.cm, tkD, [], none⟩ : Wp)) (N := nm_Ledger_owes) (k := 2) (δ := b_Ledger_owes)
      ((ds_ret (dn_sumS (da_cons (dn_lc (t := (.nm 2)) (vs := [2]) rfl (di_list (dn_smeN (k := 2) (cls := "Ledger") (m := "account") (F := d_Ledger_account) T.cm_Ledger (dn_v (i := 0)) (dps_cons (dp_e (dn_v (i := 1))) dps_nil))) dt_yes (dn_op od_ixT (dn_v (i := 2)) dn_int)) da_nil) (da_cons (dn_op od_sub dn_int (dn_sfld (cls := "Account") (by dsimp only; rw [T.cm_Account]; exact T.cls_Account) (by dsimp only; rw [T.cm_Account]; exact T.no_Account_paid) (dn_smeN (k := 2) (cls := "Ledger") (m := "account_of") (F := d_Ledger_account_of) T.cm_Ledger (dn_v (i := 0)) (dps_cons (dp_e (dn_v (i := 1))) dps_nil)))) da_nil)))) h
end Nk64
set_option Elab.async false
set_option linter.all false
set_option maxRecDepth 100000
set_option maxHeartbeats 4000000
namespace Nk64
open PySem L2 Np
abbrev sp__law_held (K : PySem.W.Frag) (c : Ad) : Sp := spTape (⟨K, c.cm, tkD, [], none⟩ : Wp)
theorem ok__law_held {P : Program} {w : World} {K : PySem.W.Frag} {mg : Str → Option Value} {base : Heap} {c : Ad} {f : Addr} {fd : FuncData} (T : Txt K mg c) (F : Fun K "_law_held" "_law_held" s__law_held f fd)
     : FnG P w K mg base CX0 1 f fd ps__law_held (sp__law_held K c) := by
  refine Fun.okG F sc__law_held (fun vs H Q E h => ?_) (fun cdv A outer s H vs Q E hgd hr h => ?_)
  · obtain ⟨a, ns, rfl, hS, k⟩ := h
    rfl
  · obtain ⟨a, ns, rfl, hS, k⟩ := h
    refine ⟨_, (pss_one (ps_ret (pe_disp (pps_cons pe_str (pe_callTy (call_listK K) (by rfl) T.b_list (by decide +kernel) (pa_cons (pe_slice (sl_listK K) (pv 0) po_none (po_some pe_int)) pa_nil)) (pps_cons pe_str pe_int (pps_cons pe_str pe_int pps_nil))) (by rfl) (by rfl) (fun z => by cases z) (by decide)))), ?_⟩
    refine fun tp ntp => ⟨_, rfl, _, rfl, a, _, rfl, (same_new ntp).seq hS, fun p1 n1 => ?_⟩
    rw [cells0_eq]
    refine ⟨p1, _, rfl, .inl (SqL.of upd_same), fun p2 n2 => ?_⟩
    refine ⟨(same_new n2 _ _ (same_new n1 _ _ upd_same)), [(.inr "cells", .ref p2), (.inr "at", .int 0), (.inr "left", .int 0)], rfl, (by show 3 ≤ 15; decide), ?_⟩
    have e1 : tp ≠ p1 := ne_of_none upd_same n1
    have e2 : tp ≠ p2 := ne_of_none (same_new n1 _ _ upd_same) n2
    have e3 : p1 ≠ p2 := ne_of_none upd_same n2
    have h2 : H p2 = none := by rw [upd_ne e3.symm, upd_ne e2.symm] at n2; exact n2
    have h1 : H p1 = none := by rw [upd_ne e1.symm] at n1; exact n1
    refine k p2 tp _ (fun b u hb => ?_) h2 ntp (fun z => e2 z.symm) ?_ upd_same
    · rw [upd_ne (ne_of_none hb ntp), upd_ne (ne_of_none hb h2), upd_ne (ne_of_none hb h1), upd_ne (ne_of_none hb ntp)]
      exact hb
    · rw [upd_ne (fun z => e2 z.symm)]
      exact upd_same
abbrev sp__law_take (K : PySem.W.Frag) (c : Ad) : Sp := spP (⟨K, c.cm, tkD, [], none⟩ : Wp) 2 d__law_take
theorem okr__law_take {P : Program} {w : World} {K : PySem.W.Frag} {mg : Str → Option Value} {base : Heap} {c : Ad} {f : Addr} {fd : FuncData} (T : Txt K mg c) (F : Fun K "_law_take" "_law_take" s__law_take f fd)
    (M__law_take : mg "_law_take" = some (.ref f))
    (KP__law_take : PySem.W.keepIn K (.ref f) = true)
    (B__law_take : Binds K fd ps__law_take []) (n : Nat) : FnG P w K mg base CX0 (1 + n) f fd ps__law_take (spP (⟨K, c.cm, tkD, [], none⟩ : Wp) 2 (d__law_take_r n)) := by
  induction n with
  | zero => exact FnG.never fun vs H Q E h => spP_no h
  | succ n ih =>
    have O__law_take : OkG P w K mg base CX0 (1 + n) "_law_take" ps__law_take (spP (⟨K, c.cm, tkD, [], none⟩ : Wp) 2 (d__law_take_r n)) f fd := ⟨ih, M__law_take, KP__law_take⟩
    refine Fun.okG F (k := 1 + n) sc__law_take (fun vs H Q E h => ?_) (fun cdv A outer s H vs Q E hgd hr h => ?_)
    · exact h.1
    · refine ⟨_, (pss_cons (ps_if (pt_cmpR op_gt (pe_dget (hu_of' hr) (pv 0) pe_str (fun _ _ => rfl)) pe_int (nomark _))
      (pss_cons (ps_set (i := 2) sc__law_take.nd rfl (Or.inl rfl) (pe_op op_mod (pe_dget (hu_of' hr) (pv 0) pe_str (fun _ _ => rfl)) (pv 1)))
      (pss_cons (ps_dput (hu_of' hr) (pv 0) pe_str (pe_op op_fdivN (pe_dget (hu_of' hr) (pv 0) pe_str (fun _ _ => rfl)) (pv 1)) rfl)
      (pss_one (ps_ret (pv 2)))))
      pss_nil)
      (pss_cons (ps_set (i := 3) sc__law_take.nd rfl (Or.inl rfl) (pe_dget (hu_of' hr) (pv 0) pe_str (fun _ _ => rfl)))
      (pss_cons (ps_dput (hu_of' hr) (pv 0) pe_str (pe_op op_add (pv 3) pe_int) rfl)
      (pss_cons (ps_set (i := 4) sc__law_take.nd rfl (Or.inl rfl) pe_int)
      (pss_cons (ps_if (pt_cmpR (op_neDK K hr.units) (pe_dget (hu_of' hr) (pv 0) pe_str (fun _ _ => rfl)) (pe_lst pa_nil) (nomark _))
      (pss_one (ps_set (i := 4) sc__law_take.nd rfl (Or.inl rfl) (pe_ix (ix_listK K) (pe_dget (hu_of' hr) (pv 0) pe_str (fun _ _ => rfl)) (pe_op op_mod (pv 3) (pe_callB (call_lenK K) (by rfl) T.b_len (by decide +kernel) (pa_cons (pe_dget (hu_of' hr) (pv 0) pe_str (fun _ _ => rfl)) pa_nil))) (fun _ _ => rfl))))
      pss_nil)
      (pss_cons (ps_if (PW.pt (pw_and (pt_cmpR op_lt (pv 3) (pe_callB (call_lenK K) (by rfl) T.b_len (by decide +kernel) (pa_cons (pe_dget (hu_of' hr) (pv 0) pe_str (fun _ _ => rfl)) pa_nil)) (nomark _)) (pw_and1 (pt_cmpR op_ge (pv 4) (pe_op op_pow pe_int pe_int) (nomark _)))))
      (pss_cons (ps_dput (hu_of' hr) (pv 0) pe_str (pe_op op_fdivN (pe_op op_sub (pv 4) (pe_op op_pow pe_int pe_int)) (pv 1)) rfl)
      (pss_one (ps_ret (pe_op op_mod (pe_op op_sub (pv 4) (pe_op op_pow pe_int pe_int)) (pv 1)))))
      pss_nil)
      (pss_cons (ps_set (i := 5) sc__law_take.nd rfl (Or.inl rfl) (pe_op op_mod (pe_op op_add (pe_op op_add (pe_op op_add (pe_op op_mul (pe_op op_mod (pv 4) pe_int) pe_int) (pe_op op_mul (pe_op op_mul pe_int (pv 3)) (pv 3))) (pe_op op_mul pe_int (pv 3))) pe_int) pe_int))
      (pss_cons (ps_set (i := 5) sc__law_take.nd rfl (Or.inl rfl) (pe_op op_mod (pe_op op_add (pe_op op_add (pe_op op_mul (pv 5) (pv 5)) (pe_op op_mul pe_int (pv 5))) pe_int) pe_int))
      (pss_cons (ps_if (pt_cmpR op_gt (pv 1) (pe_op op_pow pe_int pe_int) (nomark _))
      (pss_one (ps_ret (pe_op op_mod (pe_op op_add (pe_op op_mod (pe_op op_fdiv (pv 5) pe_int) (pe_op op_pow pe_int pe_int)) (pe_op op_mul (pe_op op_pow pe_int pe_int) (pe_c (dvs := []) O__law_take ⟨[], .nil, B__law_take⟩ hgd (hr.mono (by omega)) pass0At (pa_cons (pv 0) (pa_cons (pe_op op_add (pe_op op_fdivN (pv 1) (pe_op op_pow pe_int pe_int)) pe_int) pa_nil))))) (pv 1))))
      pss_nil)
      (pss_one (ps_ret (pe_op op_mod (pe_op op_fdiv (pv 5) pe_int) (pv 1))))))))))))), ?_⟩
      exact body_ok (W := (⟨K, c.cm, tkD, [], none⟩ : Wp)) (N := nm__law_take) (k := 2) (δ := b__law_take (d__law_take_r n))
        ((ds_seq (ds_if (dt_test (dn_op od_gt (dn_td (i := 0) (k := .left) rfl) dn_int))
      (ds_seq (ds_set (dn_op od_mod (dn_td (i := 0) (k := .left) rfl) (dn_v (i := 1))))
      (ds_seq (ds_tdPut (i := 0) (k := .left) rfl (dn_op od_fdivN (dn_td (i := 0) (k := .left) rfl) (dn_v (i := 1))))
      (ds_ret (dn_v (i := 2)))))
      ds_next)
      (ds_seq (ds_set (dn_td (i := 0) (k := .at') rfl))
      (ds_seq (ds_tdPut (i := 0) (k := .at') rfl (dn_op od_add (dn_v (i := 3)) dn_int))
      (ds_seq (ds_set dn_int)
      (ds_seq (ds_if (dt_test (dn_op od_neD (dn_td (i := 0) (k := .cells) rfl) (dn_lst da_nil)))
      (ds_set (dn_op od_ixL (dn_td (i := 0) (k := .cells) rfl) (dn_op od_mod (dn_v (i := 3)) (dn_cb cd_lenL (da_cons (dn_td (i := 0) (k := .cells) rfl) da_nil)))))
      ds_next)
      (ds_seq (ds_if (dt_and (dt_test (dn_op od_lt (dn_v (i := 3)) (dn_cb cd_lenL (da_cons (dn_td (i := 0) (k := .cells) rfl) da_nil)))) (dt_test (dn_op od_ge (dn_v (i := 4)) (dn_op od_pow dn_int dn_int))))
      (ds_seq (ds_tdPut (i := 0) (k := .left) rfl (dn_op od_fdivN (dn_op od_sub (dn_v (i := 4)) (dn_op od_pow dn_int dn_int)) (dn_v (i := 1))))
      (ds_ret (dn_op od_mod (dn_op od_sub (dn_v (i := 4)) (dn_op od_pow dn_int dn_int)) (dn_v (i := 1)))))
      ds_next)
      (ds_seq (ds_set (dn_op od_mod (dn_op od_add (dn_op od_add (dn_op od_add (dn_op od_mul (dn_op od_mod (dn_v (i := 4)) dn_int) dn_int) (dn_op od_mul (dn_op od_mul dn_int (dn_v (i := 3))) (dn_v (i := 3)))) (dn_op od_mul dn_int (dn_v (i := 3)))) dn_int) dn_int))
      (ds_seq (ds_set (dn_op od_mod (dn_op od_add (dn_op od_add (dn_op od_mul (dn_v (i := 5)) (dn_v (i := 5))) (dn_op od_mul dn_int (dn_v (i := 5)))) dn_int) dn_int))
      (ds_seq (ds_if (dt_test (dn_op od_gt (dn_v (i := 1)) (dn_op od_pow dn_int dn_int)))
      (ds_ret (dn_op od_mod (dn_op od_add (dn_op od_mod (dn_op od_fdiv (dn_v (i := 5)) dn_int) (dn_op od_pow dn_int dn_int)) (dn_op od_mul (dn_op od_pow dn_int dn_int) (dn_callN (k := 2) (F := d__law_take_r n) (dv := []) (fun _ _ => .nil) (dps_cons (dp_t (i := 0)) (dps_cons (dp_e (dn_op od_add (dn_op od_fdivN (dn_v (i := 1)) (dn_op od_pow dn_int dn_int)) dn_int)) dps_nil))))) (dn_v (i := 1))))
      ds_next)
      (ds_ret (dn_op od_mod (dn_op od_fdiv (dn_v (i := 5)) dn_int) (dn_v (i := 1)))))))))))))) h
theorem ok__law_take {P : Program} {w : World} {K : PySem.W.Frag} {mg : Str → Option Value} {base : Heap} {c : Ad} {f : Addr} {fd : FuncData} (T : Txt K mg c) (F : Fun K "_law_take" "_law_take" s__law_take f fd)
    (M__law_take : mg "_law_take" = some (.ref f))
    (KP__law_take : PySem.W.keepIn K (.ref f) = true)
    (B__law_take : Binds K fd ps__law_take []) : FnG P w K mg base CX0 3 f fd ps__law_take (sp__law_take K c) := okr__law_take T F M__law_take KP__law_take B__law_take 2
end Nk64
set_option Elab.async false
set_option linter.all false
set_option maxRecDepth 100000
set_option maxHeartbeats 4000000
namespace Nk64
open PySem L2 Np
abbrev sp__law_names (K : PySem.W.Frag) (c : Ad) : Sp := spP (⟨K, c.cm, tkD, [], none⟩ : Wp) 2 d__law_names
theorem ok__law_names {P : Program} {w : World} {K : PySem.W.Frag} {mg : Str → Option Value} {base : Heap} {c : Ad} {f : Addr} {fd : FuncData} (T : Txt K mg c) (F : Fun K "_law_names" "_law_names" s__law_names f fd)
    {f__law_take : Addr} {fd__law_take : FuncData} (O__law_take : OkG P w K mg base CX0 3 "_law_take" ps__law_take (sp__law_take K c) f__law_take fd__law_take)
    (B__law_take : Binds K fd__law_take ps__law_take []) : FnG P w K mg base CX0 4 f fd ps__law_names (sp__law_names K c) := by
  refine Fun.okG F sc__law_names (fun vs H Q E h => ?_) (fun cdv A outer s H vs Q E hgd hr h => ?_)
  · exact h.1
  · refine ⟨_, (pss_cons (ps_set (i := 2) sc__law_names.nd rfl (Or.inr rfl) pe_str)
      (pss_cons (ps_set (i := 3) sc__law_names.nd rfl (Or.inr rfl) (pe_joinK K pe_str (pe_lc (own := [("_law_k", 4)]) (g := gName 4) (tt := tYes) (by rfl) sc__law_names.nd (pi_range1 (by rfl) T.b_range (pa_cons (pe_op op_add pe_int (pe_c (dvs := []) O__law_take ⟨[], .nil, B__law_take⟩ hgd (hr.mono (by decide)) pass0At (pa_cons (pv 0) (pa_cons pe_int pa_nil)))) pa_nil)) (blkOk_by (own := [("_law_k", 4)]) (N := nm__law_names) (sc := defScope s__law_names) (by decide +kernel)) (fun _ _ _ _ _ => (pg_name (i := 4) sc__law_names.nd rfl (Or.inl rfl))) (fun _ _ _ _ _ => pts_nil) (fun _ _ _ _ _ => (pe_ix ix_str (pv 2) (pe_c (dvs := []) O__law_take ⟨[], .nil, B__law_take⟩ hgd (hr.mono (by decide)) pass0At (pa_cons (pv 0) (pa_cons pe_int pa_nil))) (fun _ _ => rfl))))))
      (pss_cons (ps_asg (pe_tup (pa_cons (pe_c (dvs := []) O__law_take ⟨[], .nil, B__law_take⟩ hgd (hr.mono (by decide)) pass0At (pa_cons (pv 0) (pa_cons (pe_callB call_len_str (by rfl) T.b_len (by decide +kernel) (pa_cons (pv 3) pa_nil)) pa_nil))) (pa_cons (pe_c (dvs := []) O__law_take ⟨[], .nil, B__law_take⟩ hgd (hr.mono (by decide)) pass0At (pa_cons (pv 0) (pa_cons pe_int pa_nil))) pa_nil))) (pg_tupK (n := 2) K (by rfl) (pgs_cons (pg_name (i := 5) sc__law_names.nd rfl (Or.inr rfl)) (pgs_cons (pg_name (i := 6) sc__law_names.nd rfl (Or.inr rfl)) pgs_nil))))
      (pss_cons (ps_set (i := 7) sc__law_names.nd rfl (Or.inr rfl) (pe_ix (ix_listK K) (pe_lst (pa_cons pe_int (pa_cons pe_int (pa_cons pe_int (pa_cons pe_int (pa_cons pe_int (pa_cons pe_int (pa_cons pe_int (pa_cons pe_int (pa_cons pe_int (pa_cons pe_int (pa_cons pe_int (pa_cons pe_int pa_nil))))))))))))) (pe_c (dvs := []) O__law_take ⟨[], .nil, B__law_take⟩ hgd (hr.mono (by decide)) pass0At (pa_cons (pv 0) (pa_cons pe_int pa_nil))) (fun _ _ => rfl)))
      (pss_cons (ps_if (PW.pt (pw_and (pt_cmpR op_lt (pv 1) pe_int (nomark _)) (pw_and1 (pt_cmpR op_eq (pe_c (dvs := []) O__law_take ⟨[], .nil, B__law_take⟩ hgd (hr.mono (by decide)) pass0At (pa_cons (pv 0) (pa_cons pe_int pa_nil))) pe_int (nomark _)))))
      (pss_one (ps_ret (pe_lc (own := [("_law_k", 4)]) (g := gName 4) (tt := tYes) (by rfl) sc__law_names.nd (pi_range1 (by rfl) T.b_range (pa_cons (pv 1) pa_nil)) (blkOk_by (own := [("_law_k", 4)]) (N := nm__law_names) (sc := defScope s__law_names) (by decide +kernel)) (fun _ _ _ _ _ => (pg_name (i := 4) sc__law_names.nd rfl (Or.inl rfl))) (fun _ _ _ _ _ => pts_nil) (fun _ _ _ _ _ => (pe_slice sl_str (pe_op op_mulS (pv 3) pe_int) po_none (po_some (pe_op op_add pe_int (pe_op op_mod (pe_op op_add (pv 6) (pe_op op_mul (pv 7) (pv 4))) pe_int))))))))
      pss_nil)
      (pss_cons (ps_setLc (i := 8) (own := [("_law_k", 4)]) (g := gName 4) (tt := tYes) (by rfl) sc__law_names.nd rfl rfl (sw_true rfl rfl rfl (by decide +kernel)) (pi_range1 (by rfl) T.b_range (pa_cons (pv 1) pa_nil)) (blkOk_by (own := [("_law_k", 4)]) (N := nm__law_names) (sc := defScope s__law_names) (by decide +kernel)) (fun _ _ _ _ _ => (pg_name (i := 4) sc__law_names.nd rfl (Or.inl rfl))) (fun _ _ _ _ _ => pts_nil) (fun _ _ _ _ _ => (pe_ix ix_str (pv 2) (pe_op op_mod (pe_op op_add (pv 6) (pe_op op_mul (pv 7) (pv 4))) pe_int) (fun _ _ => rfl))))
      (pss_one (ps_ret (pe_lc (own := [("_law_sign", 9)]) (g := gName 9) (tt := tYes) (by rfl) sc__law_names.nd (pi_listK K (pv 8)) (blkOk_by (own := [("_law_sign", 9)]) (N := nm__law_names) (sc := defScope s__law_names) (by decide +kernel)) (fun _ _ _ _ _ => (pg_name (i := 9) sc__law_names.nd rfl (Or.inl rfl))) (fun _ _ _ _ _ => pts_nil) (fun _ _ _ _ _ => (pe_op op_add_str (pe_op op_add_str (pe_slice sl_str (pv 3) po_none (po_some (pv 5))) (pv 9)) (pe_slice sl_str (pv 3) (po_some (pe_op op_add (pv 5) pe_int)) po_none)))))))))))), ?_⟩
    exact body_ok (W := (⟨K, c.cm, tkD, [], none⟩ : Wp)) (N := nm__law_names) (k := 2) (δ := b__law_names)
      ((ds_seq (ds_set dn_str)
      (ds_seq (ds_set (dn_m1 md_join dn_str (dn_lc (t := (.nm 4)) (vs := [4]) rfl (di_range1 (da_cons (dn_op od_add dn_int (dn_callN (k := 2) (F := d__law_take) (dv := []) (fun _ _ => .nil) (dps_cons (dp_t (i := 0)) (dps_cons (dp_e dn_int) dps_nil)))) da_nil)) dt_yes (dn_op od_ixS (dn_v (i := 2)) (dn_callN (k := 2) (F := d__law_take) (dv := []) (fun _ _ => .nil) (dps_cons (dp_t (i := 0)) (dps_cons (dp_e dn_int) dps_nil)))))))
      (ds_seq (ds_asgT (g := (.tp [(.nm 5), (.nm 6)])) (dn_tup (da_cons (dn_callN (k := 2) (F := d__law_take) (dv := []) (fun _ _ => .nil) (dps_cons (dp_t (i := 0)) (dps_cons (dp_e (dn_cb cd_lenS (da_cons (dn_v (i := 3)) da_nil))) dps_nil))) (da_cons (dn_callN (k := 2) (F := d__law_take) (dv := []) (fun _ _ => .nil) (dps_cons (dp_t (i := 0)) (dps_cons (dp_e dn_int) dps_nil))) da_nil))))
      (ds_seq (ds_set (dn_op od_ixL (dn_lst (da_cons dn_int (da_cons dn_int (da_cons dn_int (da_cons dn_int (da_cons dn_int (da_cons dn_int (da_cons dn_int (da_cons dn_int (da_cons dn_int (da_cons dn_int (da_cons dn_int (da_cons dn_int da_nil))))))))))))) (dn_callN (k := 2) (F := d__law_take) (dv := []) (fun _ _ => .nil) (dps_cons (dp_t (i := 0)) (dps_cons (dp_e dn_int) dps_nil)))))
      (ds_seq (ds_if (dt_and (dt_test (dn_op od_lt (dn_v (i := 1)) dn_int)) (dt_test (dn_op od_eq (dn_callN (k := 2) (F := d__law_take) (dv := []) (fun _ _ => .nil) (dps_cons (dp_t (i := 0)) (dps_cons (dp_e dn_int) dps_nil))) dn_int)))
      (ds_ret (dn_lc (t := (.nm 4)) (vs := [4]) rfl (di_range1 (da_cons (dn_v (i := 1)) da_nil)) dt_yes (dn_slice sd_str (dn_op od_mulS (dn_v (i := 3)) dn_int) do_none (do_some (dn_op od_add dn_int (dn_op od_mod (dn_op od_add (dn_v (i := 6)) (dn_op od_mul (dn_v (i := 7)) (dn_v (i := 4)))) dn_int))))))
      ds_next)
      (ds_seq (ds_set (dn_lc (t := (.nm 4)) (vs := [4]) rfl (di_range1 (da_cons (dn_v (i := 1)) da_nil)) dt_yes (dn_op od_ixS (dn_v (i := 2)) (dn_op od_mod (dn_op od_add (dn_v (i := 6)) (dn_op od_mul (dn_v (i := 7)) (dn_v (i := 4)))) dn_int))))
      (ds_ret (dn_lc (t := (.nm 9)) (vs := [9]) rfl (di_list (dn_v (i := 8))) dt_yes (dn_op od_add_str (dn_op od_add_str (dn_slice sd_str (dn_v (i := 3)) do_none (do_some (dn_v (i := 5)))) (dn_v (i := 9))) (dn_slice sd_str (dn_v (i := 3)) (do_some (dn_op od_add (dn_v (i := 5)) dn_int)) do_none))))))))))) h
end Nk64
set_option Elab.async false
set_option linter.all false
set_option maxRecDepth 100000
set_option maxHeartbeats 4000000
namespace Nk64
open PySem L2 Np
abbrev sp__law_price (K : PySem.W.Frag) (c : Ad) : Sp := spP (⟨K, c.cm, tkD, [], none⟩ : Wp) 2 d__law_price
theorem ok__law_price {P : Program} {w : World} {K : PySem.W.Frag} {mg : Str → Option Value} {base : Heap} {c : Ad} {f : Addr} {fd : FuncData} (T : Txt K mg c) (F : Fun K "_law_price" "_law_price" s__law_price f fd)
     : FnG P w K mg base CX0 1 f fd ps__law_price (sp__law_price K c) := by
  refine Fun.okG F sc__law_price (fun vs H Q E h => ?_) (fun cdv A outer s H vs Q E hgd hr h => ?_)
  · exact h.1
  · refine ⟨_, (pss_cons (ps_set (i := 2) sc__law_price.nd rfl (Or.inl rfl) (pe_dget (hu_of' hr) (pv 0) pe_str (fun _ _ => rfl)))
      (pss_cons (ps_for PassesOwn.never rfl (pi_listK K (pe_callB (cr_sortDK rfl) (by rfl) T.b_sorted (by decide +kernel) (pa_cons (pe_dget (hu_of' hr) (pv 0) pe_str (fun _ _ => rfl)) pa_nil))) (pg_name (i := 3) sc__law_price.nd rfl (Or.inl rfl))
      (pss_one (ps_if (pt_cmpR op_le (pv 3) (pv 1) (nomark _))
      (pss_one (ps_set (i := 2) sc__law_price.nd rfl (Or.inl rfl) (pe_dget (hu_of' hr) (pe_dget (hu_of' hr) (pv 0) pe_str (fun _ _ => rfl)) (pv 3) (fun _ _ => rfl))))
      pss_nil)))
      (pss_one (ps_ret (pv 2))))), ?_⟩
    exact body_ok (W := (⟨K, c.cm, tkD, [], none⟩ : Wp)) (N := nm__law_price) (k := 2) (δ := b__law_price)
      ((ds_seq (ds_set (dn_dget (dn_v (i := 0)) dn_str))
      (ds_seq (ds_for (g := (.nm 3)) (di_list (dn_sortDK (da_cons (dn_dget (dn_v (i := 0)) dn_str) da_nil)))
      (ds_if (dt_test (dn_op od_le (dn_v (i := 3)) (dn_v (i := 1))))
      (ds_set (dn_sdget (dn_dget (dn_v (i := 0)) dn_str) (dn_v (i := 3))))
      ds_next))
      (ds_ret (dn_v (i := 2)))))) h
abbrev sp__law_account (K : PySem.W.Frag) (c : Ad) : Sp := spP (⟨K, c.cm, tkD, [], none⟩ : Wp) 2 d__law_account
theorem ok__law_account {P : Program} {w : World} {K : PySem.W.Frag} {mg : Str → Option Value} {base : Heap} {c : Ad} {f : Addr} {fd : FuncData} (T : Txt K mg c) (F : Fun K "_law_account" "_law_account" s__law_account f fd)
    {f__law_price : Addr} {fd__law_price : FuncData} (O__law_price : OkG P w K mg base CX0 1 "_law_price" ps__law_price (sp__law_price K c) f__law_price fd__law_price)
    (B__law_price : Binds K fd__law_price ps__law_price []) : FnG P w K mg base CX0 2 f fd ps__law_account (sp__law_account K c) := by
  refine Fun.okG F sc__law_account (fun vs H Q E h => ?_) (fun cdv A outer s H vs Q E hgd hr h => ?_)
  · exact h.1
  · refine ⟨_, (pss_cons (ps_set (i := 2) sc__law_account.nd rfl (Or.inl rfl) (pe_lst pa_nil))
      (pss_cons (ps_for PassesOwn.never rfl (pi_listK K (pe_callB (cr_sortDK rfl) (by rfl) T.b_sorted (by decide +kernel) (pa_cons (pe_dget (hu_of' hr) (pe_dget (hu_of' hr) (pv 0) pe_str (fun _ _ => rfl)) (pv 1) (fun _ _ => rfl)) pa_nil))) (pg_name (i := 3) sc__law_account.nd rfl (Or.inl rfl))
      (pss_cons (ps_par (i := 4) (j := 5) (by rfl) sc__law_account.nd rfl rfl (by decide) rfl rfl (pa_cons (pe_dget (hu_of' hr) (pe_dget (hu_of' hr) (pe_dget (hu_of' hr) (pv 0) pe_str (fun _ _ => rfl)) (pv 1) (fun _ _ => rfl)) (pv 3) (fun _ _ => rfl)) (pa_cons (pe_dget2 (hu_of' hr) (pe_dget (hu_of' hr) (pv 0) pe_str (fun _ _ => rfl)) (pe_tup (pa_cons (pv 1) (pa_cons (pv 3) pa_nil))) pe_int ⟨rfl, rfl, rfl, rfl⟩) pa_nil)) (by rfl))
      (pss_cons (ps_set (i := 6) sc__law_account.nd rfl (Or.inl rfl) (pe_op op_sub (pv 4) (pv 5)))
      (pss_one (ps_expr (pe_bmK K PySem.F.plainAttrs_list PySem.F.slot_list_append PySem.F.type_list_append mt_append (pv 2) (pa_cons (pe_tup (pa_cons (pv 3) (pa_cons (pv 4) (pa_cons (pv 5) (pa_cons (pe_op op_mul (pe_op op_sub (pv 6) (pe_op op_fdivN (pv 6) (pe_dget (hu_of' hr) (pv 0) pe_str (fun _ _ => rfl)))) (pe_c (dvs := []) O__law_price ⟨[], .nil, B__law_price⟩ hgd (hr.mono (by decide)) pass0At (pa_cons (pv 0) (pa_cons (pv 3) pa_nil)))) pa_nil))))) pa_nil)))))))
      (pss_one (ps_ret (pv 2))))), ?_⟩
    exact body_ok (W := (⟨K, c.cm, tkD, [], none⟩ : Wp)) (N := nm__law_account) (k := 2) (δ := b__law_account)
      ((ds_seq (ds_setO (df_lst da_nil))
      (ds_seq (ds_for (g := (.nm 3)) (di_list (dn_sortDK (da_cons (dn_sdget (dn_dget (dn_v (i := 0)) dn_str) (dn_v (i := 1))) da_nil)))
      (ds_seq (ds_par (da_cons (dn_sdget (dn_sdget (dn_dget (dn_v (i := 0)) dn_str) (dn_v (i := 1))) (dn_v (i := 3))) (da_cons (dn_sdget2 (dn_dget (dn_v (i := 0)) dn_str) (dn_tup (da_cons (dn_v (i := 1)) (da_cons (dn_v (i := 3)) da_nil))) dn_int) da_nil)))
      (ds_seq (ds_set (dn_op od_sub (dn_v (i := 4)) (dn_v (i := 5))))
      (ds_app (i := 2) (dn_tup (da_cons (dn_v (i := 3)) (da_cons (dn_v (i := 4)) (da_cons (dn_v (i := 5)) (da_cons (dn_op od_mul (dn_op od_sub (dn_v (i := 6)) (dn_op od_fdivN (dn_v (i := 6)) (dn_dget (dn_v (i := 0)) dn_str))) (dn_callN (k := 2) (F := d__law_price) (dv := []) (fun _ _ => .nil) (dps_cons (dp_e (dn_v (i := 0))) (dps_cons (dp_e (dn_v (i := 3))) dps_nil)))) da_nil)))))))))
      (ds_frz (i := 2) (ds_ret (dn_v (i := 2))))))) h
abbrev sp__law_owes (K : PySem.W.Frag) (c : Ad) : Sp := spP (⟨K, c.cm, tkD, [], none⟩ : Wp) 2 d__law_owes
theorem ok__law_owes {P : Program} {w : World} {K : PySem.W.Frag} {mg : Str → Option Value} {base : Heap} {c : Ad} {f : Addr} {fd : FuncData} (T : Txt K mg c) (F : Fun K "_law_owes" "_law_owes" s__law_owes f fd)
    {f__law_account : Addr} {fd__law_account : FuncData} (O__law_account : OkG P w K mg base CX0 2 "_law_account" ps__law_account (sp__law_account K c) f__law_account fd__law_account)
    (B__law_account : Binds K fd__law_account ps__law_account []) : FnG P w K mg base CX0 3 f fd ps__law_owes (sp__law_owes K c) := by
  refine Fun.okG F sc__law_owes (fun vs H Q E h => ?_) (fun cdv A outer s H vs Q E hgd hr h => ?_)
  · exact h.1
  · refine ⟨_, (pss_one (ps_ret (pe_op op_sub (pe_callB (cr_sumK K rfl) (by rfl) T.b_sum (by decide +kernel) (pa_cons (pe_lc (own := [("_law_row", 2)]) (g := gName 2) (tt := tYes) (by rfl) sc__law_owes.nd (pi_listK K (pe_c (dvs := []) O__law_account ⟨[], .nil, B__law_account⟩ hgd (hr.mono (by decide)) pass0At (pa_cons (pv 0) (pa_cons (pv 1) pa_nil)))) (blkOk_by (own := [("_law_row", 2)]) (N := nm__law_owes) (sc := defScope s__law_owes) (by decide +kernel)) (fun _ _ _ _ _ => (pg_name (i := 2) sc__law_owes.nd rfl (Or.inl rfl))) (fun _ _ _ _ _ => pts_nil) (fun _ _ _ _ _ => (pe_ix (ix_tupK K) (pv 2) pe_int (fun _ _ => rfl)))) pa_nil)) (pe_dget2 (hu_of' hr) (pe_dget (hu_of' hr) (pv 0) pe_str (fun _ _ => rfl)) (pv 1) pe_int ⟨rfl, rfl, rfl, rfl⟩)))), ?_⟩
    exact body_ok (W := (⟨K, c.cm, tkD, [], none⟩ : Wp)) (N := nm__law_owes) (k := 2) (δ := b__law_owes)
      ((ds_ret (dn_op od_sub (dn_cb cd_sum (da_cons (dn_lc (t := (.nm 2)) (vs := [2]) rfl (di_list (dn_callN (k := 2) (F := d__law_account) (dv := []) (fun _ _ => .nil) (dps_cons (dp_e (dn_v (i := 0))) (dps_cons (dp_e (dn_v (i := 1))) dps_nil)))) dt_yes (dn_op od_ixT (dn_v (i := 2)) dn_int)) da_nil)) (dn_sdget2 (dn_dget (dn_v (i := 0)) dn_str) (dn_v (i := 1)) dn_int)))) h
end Nk64
set_option Elab.async false
set_option linter.all false
set_option maxRecDepth 100000
set_option maxHeartbeats 4000000
namespace Nk64
open PySem L2 Np
abbrev sp__law_sent (K : PySem.W.Frag) (c : Ad) : Sp := spP (⟨K, c.cm, tkD, [], none⟩ : Wp) 3 d__law_sent
theorem ok__law_sent {P : Program} {w : World} {K : PySem.W.Frag} {mg : Str → Option Value} {base : Heap} {c : Ad} {f : Addr} {fd : FuncData} (T : Txt K mg c) (F : Fun K "_law_sent" "_law_sent" s__law_sent f fd)
    {f__law_take : Addr} {fd__law_take : FuncData} (O__law_take : OkG P w K mg base CX0 3 "_law_take" ps__law_take (sp__law_take K c) f__law_take fd__law_take)
    (B__law_take : Binds K fd__law_take ps__law_take []) : FnG P w K mg base CX0 4 f fd ps__law_sent (sp__law_sent K c) := by
  refine Fun.okG F sc__law_sent (fun vs H Q E h => ?_) (fun cdv A outer s H vs Q E hgd hr h => ?_)
  · exact h.1
  · refine ⟨_, (pss_cons (ps_set (i := 3) sc__law_sent.nd rfl (Or.inl rfl) (pe_lst pa_nil))
      (pss_cons (ps_set (i := 4) sc__law_sent.nd rfl (Or.inl rfl) (pe_dget (hu_of' hr) (pv 1) pe_str (fun _ _ => rfl)))
      (pss_cons (ps_for PassesOwn.never rfl (pi_range2 (by rfl) T.b_range (pa_cons pe_int (pa_cons (pe_op op_add pe_int (pe_c (dvs := []) O__law_take ⟨[], .nil, B__law_take⟩ hgd (hr.mono (by decide)) pass0At (pa_cons (pv 0) (pa_cons pe_int pa_nil)))) pa_nil))) (pg_name (i := 5) sc__law_sent.nd rfl (Or.inl rfl))
      (pss_cons (ps_set (i := 6) sc__law_sent.nd rfl (Or.inl rfl) (pe_op op_add (pe_op op_mul (pv 4) (pe_c (dvs := []) O__law_take ⟨[], .nil, B__law_take⟩ hgd (hr.mono (by decide)) pass0At (pa_cons (pv 0) (pa_cons pe_int pa_nil)))) (pe_ix (ix_listK K) (pe_lst (pa_cons pe_int (pa_cons pe_int (pa_cons (pe_op op_sub (pv 4) pe_int) pa_nil)))) (pe_c (dvs := []) O__law_take ⟨[], .nil, B__law_take⟩ hgd (hr.mono (by decide)) pass0At (pa_cons (pv 0) (pa_cons pe_int pa_nil))) (fun _ _ => rfl))))
      (pss_one (ps_if (pt_cmpR op_gt (pv 6) pe_int (nomark _))
      (pss_cons (ps_set (i := 7) sc__law_sent.nd rfl (Or.inl rfl) (pe_ix (ix_listK K) (pe_lst (pa_cons pe_int (pa_cons pe_int (pa_cons pe_int (pa_cons (pv 6) (pa_cons (pe_c (dvs := []) O__law_take ⟨[], .nil, B__law_take⟩ hgd (hr.mono (by decide)) pass0At (pa_cons (pv 0) (pa_cons (pe_op op_add (pv 6) pe_int) pa_nil))) pa_nil)))))) (pe_c (dvs := []) O__law_take ⟨[], .nil, B__law_take⟩ hgd (hr.mono (by decide)) pass0At (pa_cons (pv 0) (pa_cons pe_int pa_nil))) (fun _ _ => rfl)))
      (pss_cons (ps_expr (pe_bmK K PySem.F.plainAttrs_list PySem.F.slot_list_append PySem.F.type_list_append mt_append (pv 3) (pa_cons (pe_tup (pa_cons (pe_op op_mul pe_int (pv 5)) (pa_cons (pv 6) (pa_cons (pv 7) pa_nil)))) pa_nil)))
      (pss_cons (ps_set (i := 8) sc__law_sent.nd rfl (Or.inl rfl) (pe_dsetd (pe_dget (hu_of' hr) (pv 1) pe_str (fun _ _ => rfl)) (pv 2) pe_dnewK ⟨rfl, rfl, rfl, rfl⟩))
      (pss_cons (ps_asg (pv 6) (pg_sub (pv 8) (pe_op op_mul pe_int (pv 5)) (set_dict (hu_of' hr))))
      (pss_one (ps_asg (pv 7) (pg_sub (pe_dget (hu_of' hr) (pv 1) pe_str (fun _ _ => rfl)) (pe_tup (pa_cons (pv 2) (pa_cons (pe_op op_mul pe_int (pv 5)) pa_nil))) (set_dict (hu_of' hr)))))))))
      pss_nil))))
      (pss_one (ps_ret (pv 3)))))), ?_⟩
    exact body_ok (W := (⟨K, c.cm, tkD, [], none⟩ : Wp)) (N := nm__law_sent) (k := 3) (δ := b__law_sent)
      ((ds_seq (ds_setO (df_lst da_nil))
      (ds_seq (ds_set (dn_dget (dn_v (i := 1)) dn_str))
      (ds_seq (ds_for (g := (.nm 5)) (di_range2 (da_cons dn_int (da_cons (dn_op od_add dn_int (dn_callN (k := 2) (F := d__law_take) (dv := []) (fun _ _ => .nil) (dps_cons (dp_t (i := 0)) (dps_cons (dp_e dn_int) dps_nil)))) da_nil)))
      (ds_seq (ds_set (dn_op od_add (dn_op od_mul (dn_v (i := 4)) (dn_callN (k := 2) (F := d__law_take) (dv := []) (fun _ _ => .nil) (dps_cons (dp_t (i := 0)) (dps_cons (dp_e dn_int) dps_nil)))) (dn_op od_ixL (dn_lst (da_cons dn_int (da_cons dn_int (da_cons (dn_op od_sub (dn_v (i := 4)) dn_int) da_nil)))) (dn_callN (k := 2) (F := d__law_take) (dv := []) (fun _ _ => .nil) (dps_cons (dp_t (i := 0)) (dps_cons (dp_e dn_int) dps_nil))))))
      (ds_if (dt_test (dn_op od_gt (dn_v (i := 6)) dn_int))
      (ds_seq (ds_set (dn_op od_ixL (dn_lst (da_cons dn_int (da_cons dn_int (da_cons dn_int (da_cons (dn_v (i := 6)) (da_cons (dn_callN (k := 2) (F := d__law_take) (dv := []) (fun _ _ => .nil) (dps_cons (dp_t (i := 0)) (dps_cons (dp_e (dn_op od_add (dn_v (i := 6)) dn_int)) dps_nil))) da_nil)))))) (dn_callN (k := 2) (F := d__law_take) (dv := []) (fun _ _ => .nil) (dps_cons (dp_t (i := 0)) (dps_cons (dp_e dn_int) dps_nil)))))
      (ds_seq (ds_app (i := 3) (dn_tup (da_cons (dn_op od_mul dn_int (dn_v (i := 5))) (da_cons (dn_v (i := 6)) (da_cons (dn_v (i := 7)) da_nil)))))
      (ds_seq (ds_set (dn_setd (fun _ _ _ => rfl) (dn_dget (dn_v (i := 1)) dn_str) (dn_v (i := 2)) (dn_newK (fun _ _ _ => rfl))))
      (ds_seq (ds_dPut (fun _ _ _ => rfl) (dn_v (i := 8)) (dn_op od_mul dn_int (dn_v (i := 5))) (dn_v (i := 6)))
      (ds_dPut (fun _ _ _ => rfl) (dn_dget (dn_v (i := 1)) dn_str) (dn_tup (da_cons (dn_v (i := 2)) (da_cons (dn_op od_mul dn_int (dn_v (i := 5))) da_nil))) (dn_v (i := 7)))))))
      ds_next)))
      (ds_frz (i := 3) (ds_ret (dn_v (i := 3)))))))) h
abbrev sp__law_put (K : PySem.W.Frag) (c : Ad) : Sp := spP (⟨K, c.cm, tkD, [], none⟩ : Wp) 3 d__law_put
theorem ok__law_put {P : Program} {w : World} {K : PySem.W.Frag} {mg : Str → Option Value} {base : Heap} {c : Ad} {f : Addr} {fd : FuncData} (T : Txt K mg c) (F : Fun K "_law_put" "_law_put" s__law_put f fd)
    (MK_Ledger_send_0_night_copies_seller : MeK P w K mg base CX0 3 c.Ledger "send" ps_Ledger_send (sp_Ledger_send K c) 0 ["night", "copies", "seller"] (pickL [] [.a 0, .z 2, .z 0, .z 1]))
    (ME_Ledger_back : MeC P w K mg base CX0 5 c.Ledger "back" ps_Ledger_back (sp_Ledger_back K c)) : FnG P w K mg base CX0 6 f fd ps__law_put (sp__law_put K c) := by
  refine Fun.okG F sc__law_put (fun vs H Q E h => ?_) (fun cdv A outer s H vs Q E hgd hr h => ?_)
  · exact h.1
  · refine ⟨_, (pss_one (ps_for PassesOwn.never rfl (pi_listK K (pv 2)) (pg_tupK (n := 3) K (by rfl) (pgs_cons (pg_name (i := 3) sc__law_put.nd rfl (Or.inl rfl)) (pgs_cons (pg_name (i := 4) sc__law_put.nd rfl (Or.inl rfl)) (pgs_cons (pg_name (i := 5) sc__law_put.nd rfl (Or.inl rfl)) pgs_nil))))
      (pss_cons (ps_expr (pe_mK0 MK_Ledger_send_0_night_copies_seller T.cls_Ledger hgd (hr.mono (by decide)) pass0At (pv 0) (pk_cons (pv 3) (pk_cons (pv 4) (pk_cons (pv 1) pk_nil)))))
      (pss_one (ps_if (pt_cmpR op_gt (pv 5) pe_int (nomark _))
      (pss_one (ps_expr (pe_mG ME_Ledger_back T.cls_Ledger hgd (hr.mono (by decide)) pass0At (pv 0) (pa_cons (pv 1) (pa_cons (pv 3) (pa_cons (pv 3) (pa_cons (pv 5) pa_nil)))))))
      pss_nil))))), ?_⟩
    exact body_ok (W := (⟨K, c.cm, tkD, [], none⟩ : Wp)) (N := nm__law_put) (k := 3) (δ := b__law_put)
      ((ds_for (g := (.tp [(.nm 3), (.nm 4), (.nm 5)])) (di_list (dn_v (i := 2)))
      (ds_seq (ds_drop (dn_smeKN (k := 4) (cls := "Ledger") (nm := "send") (F := d_Ledger_send) (dv := []) (ix := [.a 0, .z 2, .z 0, .z 1]) T.cm_Ledger (fun _ _ => .nil) (dn_v (i := 0)) dps_nil (dps_cons (dp_e (dn_v (i := 3))) (dps_cons (dp_e (dn_v (i := 4))) (dps_cons (dp_e (dn_v (i := 1))) dps_nil)))))
      (ds_if (dt_test (dn_op od_gt (dn_v (i := 5)) dn_int))
      (ds_drop (dn_smeN (k := 5) (cls := "Ledger") (m := "back") (F := d_Ledger_back) T.cm_Ledger (dn_v (i := 0)) (dps_cons (dp_e (dn_v (i := 1))) (dps_cons (dp_e (dn_v (i := 3))) (dps_cons (dp_e (dn_v (i := 3))) (dps_cons (dp_e (dn_v (i := 5))) dps_nil))))))
      ds_next)))) h
abbrev sp__law_paid (K : PySem.W.Frag) (c : Ad) : Sp := spP (⟨K, c.cm, tkD, [], none⟩ : Wp) 4 d__law_paid
theorem ok__law_paid {P : Program} {w : World} {K : PySem.W.Frag} {mg : Str → Option Value} {base : Heap} {c : Ad} {f : Addr} {fd : FuncData} (T : Txt K mg c) (F : Fun K "_law_paid" "_law_paid" s__law_paid f fd)
    (MK_Ledger_pay_0_pence_seller : MeK P w K mg base CX0 5 c.Ledger "pay" ps_Ledger_pay (sp_Ledger_pay K c) 0 ["pence", "seller"] (pickL [] [.a 0, .z 1, .z 0])) : FnG P w K mg base CX0 6 f fd ps__law_paid (sp__law_paid K c) := by
  refine Fun.okG F sc__law_paid (fun vs H Q E h => ?_) (fun cdv A outer s H vs Q E hgd hr h => ?_)
  · exact h.1
  · refine ⟨_, (pss_one (ps_if (pt_cmp (pc_din (hu_of' hr) (pv 2) (pe_dget (hu_of' hr) (pv 1) pe_str (fun _ _ => rfl))) rfl)
      (pss_cons (ps_expr (pe_mK0 MK_Ledger_pay_0_pence_seller T.cls_Ledger hgd (hr.mono (by decide)) pass0At (pv 0) (pk_cons (pv 3) (pk_cons (pv 2) pk_nil))))
      (pss_one (ps_asg (pe_op op_add (pe_dget2 (hu_of' hr) (pe_dget (hu_of' hr) (pv 1) pe_str (fun _ _ => rfl)) (pv 2) pe_int ⟨rfl, rfl, rfl, rfl⟩) (pv 3)) (pg_sub (pe_dget (hu_of' hr) (pv 1) pe_str (fun _ _ => rfl)) (pv 2) (set_dict (hu_of' hr))))))
      pss_nil)), ?_⟩
    exact body_ok (W := (⟨K, c.cm, tkD, [], none⟩ : Wp)) (N := nm__law_paid) (k := 4) (δ := b__law_paid)
      ((ds_if (dt_test (dn_sdin (dn_v (i := 2)) (dn_dget (dn_v (i := 1)) dn_str)))
      (ds_seq (ds_drop (dn_smeKN (k := 3) (cls := "Ledger") (nm := "pay") (F := d_Ledger_pay) (dv := []) (ix := [.a 0, .z 1, .z 0]) T.cm_Ledger (fun _ _ => .nil) (dn_v (i := 0)) dps_nil (dps_cons (dp_e (dn_v (i := 3))) (dps_cons (dp_e (dn_v (i := 2))) dps_nil))))
      (ds_dPut (fun _ _ _ => rfl) (dn_dget (dn_v (i := 1)) dn_str) (dn_v (i := 2)) (dn_op od_add (dn_sdget2 (dn_dget (dn_v (i := 1)) dn_str) (dn_v (i := 2)) dn_int) (dn_v (i := 3)))))
      ds_next)) h
end Nk64
set_option Elab.async false
set_option linter.all false
set_option maxRecDepth 100000
set_option maxHeartbeats 4000000
namespace Nk64
open PySem L2 Np
abbrev sp_law (K : PySem.W.Frag) (c : Ad) : Sp := spLT K []
theorem ok_law {P : Program} {w : World} {K : PySem.W.Frag} {mg : Str → Option Value} {base : Heap} {c : Ad} {f : Addr} {fd : FuncData} (T : Txt K mg c) (F : Fun K "law" "law" s_law f fd)
    {f__law_held : Addr} {fd__law_held : FuncData} (O__law_held : OkG P w K mg base CX0 1 "_law_held" ps__law_held (sp__law_held K c) f__law_held fd__law_held)
    (B__law_held : Binds K fd__law_held ps__law_held [])
    {f__law_sent : Addr} {fd__law_sent : FuncData} (O__law_sent : OkG P w K mg base CX0 4 "_law_sent" ps__law_sent (sp__law_sent K c) f__law_sent fd__law_sent)
    (B__law_sent : Binds K fd__law_sent ps__law_sent [])
    {f__law_put : Addr} {fd__law_put : FuncData} (O__law_put : OkG P w K mg base CX0 6 "_law_put" ps__law_put (sp__law_put K c) f__law_put fd__law_put)
    (B__law_put : Binds K fd__law_put ps__law_put [])
    {f__law_take : Addr} {fd__law_take : FuncData} (O__law_take : OkG P w K mg base CX0 3 "_law_take" ps__law_take (sp__law_take K c) f__law_take fd__law_take)
    (B__law_take : Binds K fd__law_take ps__law_take [])
    {f__law_paid : Addr} {fd__law_paid : FuncData} (O__law_paid : OkG P w K mg base CX0 6 "_law_paid" ps__law_paid (sp__law_paid K c) f__law_paid fd__law_paid)
    (B__law_paid : Binds K fd__law_paid ps__law_paid [])
    {f__law_names : Addr} {fd__law_names : FuncData} (O__law_names : OkG P w K mg base CX0 4 "_law_names" ps__law_names (sp__law_names K c) f__law_names fd__law_names)
    (B__law_names : Binds K fd__law_names ps__law_names [])
    {f__law_owes : Addr} {fd__law_owes : FuncData} (O__law_owes : OkG P w K mg base CX0 3 "_law_owes" ps__law_owes (sp__law_owes K c) f__law_owes fd__law_owes)
    (B__law_owes : Binds K fd__law_owes ps__law_owes [])
    {f__law_account : Addr} {fd__law_account : FuncData} (O__law_account : OkG P w K mg base CX0 2 "_law_account" ps__law_account (sp__law_account K c) f__law_account fd__law_account)
    (B__law_account : Binds K fd__law_account ps__law_account [])
    (MC_Ledger_2_ : MkC P w K mg base CX0 1 c.Ledger ps_LedgerD_initD (sp_LedgerD_initD K c) 2 [] (pickL [(.int 2), (.int 13), (.int 3)] (.a 0 :: [.a 0, .a 1, .c 2].map shIx)))
    (MC_Ledger_0_price_free : MkC P w K mg base CX0 1 c.Ledger ps_LedgerD_initD (sp_LedgerD_initD K c) 0 ["price", "free"] (pickL [(.int 2), (.int 13), (.int 3)] (.a 0 :: [.z 0, .z 1, .c 2].map shIx)))
    (MK_Ledger_price_from_0_price_night : MeK P w K mg base CX0 1 c.Ledger "price_from" ps_Ledger_price_from (sp_Ledger_price_from K c) 0 ["price", "night"] (pickL [] [.a 0, .z 1, .z 0]))
    (ME_Ledger_account : MeC P w K mg base CX0 5 c.Ledger "account" ps_Ledger_account (sp_Ledger_account K c))
    (ME_Ledger_owes : MeC P w K mg base CX0 6 c.Ledger "owes" ps_Ledger_owes (sp_Ledger_owes K c))
    (ME_Ledger_price_from : MeC P w K mg base CX0 1 c.Ledger "price_from" ps_Ledger_price_from (sp_Ledger_price_from K c)) : FnG P w K mg base CX0 7 f fd ps_law (sp_law K c) := by
  refine Fun.okG F sc_law (fun vs H Q E h => ?_) (fun cdv A outer s H vs Q E hgd hr h => ?_)
  · obtain ⟨⟨a, ns, rfl, _⟩, _⟩ := h
    rfl
  · refine ⟨_, (pss_cons (ps_set (i := 1) sc_law.nd rfl (Or.inl rfl) (pe_c (dvs := []) O__law_held ⟨[], .nil, B__law_held⟩ hgd (hr.mono (by decide)) pass0At (pa_cons (pv 0) pa_nil)))
      (pss_cons (ps_for PassesOwn.never rfl (pi_range1 (by rfl) T.b_range (pa_cons pe_int pa_nil)) (pg_name (i := 2) sc_law.nd rfl (Or.inl rfl))
      (pss_cons (ps_par3 (i := 3) (j := 4) (l := 5) (by rfl) sc_law.nd rfl rfl rfl (by decide) (by decide) (by decide) rfl rfl rfl (pa_cons (pe_c (dvs := []) O__law_take ⟨[], .nil, B__law_take⟩ hgd (hr.mono (by decide)) pass0At (pa_cons (pv 1) (pa_cons pe_int pa_nil))) (pa_cons (pe_op op_add pe_int (pe_c (dvs := []) O__law_take ⟨[], .nil, B__law_take⟩ hgd (hr.mono (by decide)) pass0At (pa_cons (pv 1) (pa_cons pe_int pa_nil)))) (pa_cons (pe_ix (ix_listK K) (pe_c (dvs := []) O__law_names ⟨[], .nil, B__law_names⟩ hgd (hr.mono (by decide)) pass0At (pa_cons (pv 1) (pa_cons pe_int pa_nil))) pe_int (fun _ _ => rfl)) pa_nil))) (by rfl))
      (pss_cons (ps_set (i := 6) sc_law.nd rfl (Or.inl rfl) (pe_disp (pps_cons pe_str (pv 3) (pps_cons pe_str (pv 4) (pps_cons pe_str pe_dnewK (pps_cons pe_str pe_dnewK (pps_cons pe_str pe_dnewT (pps_cons pe_str pe_dnewK pps_nil)))))) rfl rfl (fun z => (nomatch z)) (by show 6 ≤ 15; decide)))
      (pss_cons (ps_par (i := 7) (j := 8) (by rfl) sc_law.nd rfl rfl (by decide) rfl rfl (pa_cons (pe_mkG0 MC_Ledger_0_price_free hgd (hr.mono (by decide)) T.g_Ledger pass0At (pk_cons (pv 3) (pk_cons (pv 4) pk_nil))) (pa_cons (pe_mkP MC_Ledger_2_ hgd (hr.mono (by decide)) T.g_Ledger pass0At (pa_cons (pv 3) (pa_cons (pv 4) pa_nil))) pa_nil)) (by rfl))
      (pss_cons (ps_set (i := 9) sc_law.nd rfl (Or.inl rfl) (pe_c (dvs := []) O__law_sent ⟨[], .nil, B__law_sent⟩ hgd (hr.mono (by decide)) pass0At (pa_cons (pv 1) (pa_cons (pv 6) (pa_cons (pv 5) pa_nil)))))
      (pss_cons (ps_expr (pe_c (dvs := []) O__law_put ⟨[], .nil, B__law_put⟩ hgd (hr.mono (by decide)) pass0At (pa_cons (pv 7) (pa_cons (pv 5) (pa_cons (pv 9) pa_nil)))))
      (pss_cons (ps_for PassesOwn.never rfl (pi_range1 (by rfl) T.b_range (pa_cons (pe_c (dvs := []) O__law_take ⟨[], .nil, B__law_take⟩ hgd (hr.mono (by decide)) pass0At (pa_cons (pv 1) (pa_cons pe_int pa_nil))) pa_nil)) (pg_name (i := 10) sc_law.nd rfl (Or.inl rfl))
      (pss_cons (ps_par (i := 11) (j := 12) (by rfl) sc_law.nd rfl rfl (by decide) rfl rfl (pa_cons (pe_c (dvs := []) O__law_take ⟨[], .nil, B__law_take⟩ hgd (hr.mono (by decide)) pass0At (pa_cons (pv 1) (pa_cons pe_int pa_nil))) (pa_cons (pe_ix (ix_listK K) (pe_lst (pa_cons pe_int (pa_cons (pe_c (dvs := []) O__law_take ⟨[], .nil, B__law_take⟩ hgd (hr.mono (by decide)) pass0At (pa_cons (pv 1) (pa_cons pe_int pa_nil))) (pa_cons (pe_c (dvs := []) O__law_take ⟨[], .nil, B__law_take⟩ hgd (hr.mono (by decide)) pass0At (pa_cons (pv 1) (pa_cons (pe_op op_pow pe_int pe_int) pa_nil))) pa_nil)))) (pe_c (dvs := []) O__law_take ⟨[], .nil, B__law_take⟩ hgd (hr.mono (by decide)) pass0At (pa_cons (pv 1) (pa_cons pe_int pa_nil))) (fun _ _ => rfl)) pa_nil)) (by rfl))
      (pss_cons (ps_expr (pe_mK0 MK_Ledger_price_from_0_price_night T.cls_Ledger hgd (hr.mono (by decide)) pass0At (pv 7) (pk_cons (pv 12) (pk_cons (pv 11) pk_nil))))
      (pss_cons (ps_asg (pv 12) (pg_sub (pe_dget (hu_of' hr) (pv 6) pe_str (fun _ _ => rfl)) (pv 11) (set_dict (hu_of' hr))))
      (pss_cons (ps_expr (pe_c (dvs := []) O__law_paid ⟨[], .nil, B__law_paid⟩ hgd (hr.mono (by decide)) pass0At (pa_cons (pv 7) (pa_cons (pv 6) (pa_cons (pv 5) (pa_cons (pe_op op_sub (pe_c (dvs := []) O__law_take ⟨[], .nil, B__law_take⟩ hgd (hr.mono (by decide)) pass0At (pa_cons (pv 1) (pa_cons pe_int pa_nil))) pe_int) pa_nil))))))
      (pss_cons (ps_if (PW.pt (pw_and (pt_cmpR (op_neDK K hr.units) (pv 9) (pe_lst pa_nil) (nomark _)) (pw_and1 (pt_cmpR op_ne (pe_callB (call_reprD K hgd (un130 hr)) (by rfl) T.b_repr (by decide +kernel) (pa_cons (pe_mG ME_Ledger_account T.cls_Ledger hgd (hr.mono (by decide)) pass0At (pv 7) (pa_cons (pv 5) pa_nil)) pa_nil)) (pe_callB (call_reprD K hgd (un130 hr)) (by rfl) T.b_repr (by decide +kernel) (pa_cons (pe_c (dvs := []) O__law_account ⟨[], .nil, B__law_account⟩ hgd (hr.mono (by decide)) pass0At (pa_cons (pv 6) (pa_cons (pv 5) pa_nil))) pa_nil)) (nomark _)))))
      (pss_one (ps_ret pe_bl))
      pss_nil)
      (pss_one (ps_if (PW.pt (pw_and (pt_cmpR (op_neDK K hr.units) (pv 9) (pe_lst pa_nil) (nomark _)) (pw_and1 (pt_cmpR op_ne (pe_mG ME_Ledger_owes T.cls_Ledger hgd (hr.mono (by decide)) pass0At (pv 7) (pa_cons (pv 5) pa_nil)) (pe_c (dvs := []) O__law_owes ⟨[], .nil, B__law_owes⟩ hgd (hr.mono (by decide)) pass0At (pa_cons (pv 6) (pa_cons (pv 5) pa_nil))) (nomark _)))))
      (pss_one (ps_ret pe_bl))
      pss_nil))))))))
      (pss_cons (ps_for PassesOwn.never rfl (pi_listK K (pe_revLK K (pe_callB (cr_sortDK rfl) (by rfl) T.b_sorted (by decide +kernel) (pa_cons (pe_dget (hu_of' hr) (pv 6) pe_str (fun _ _ => rfl)) pa_nil)))) (pg_name (i := 11) sc_law.nd rfl (Or.inl rfl))
      (pss_one (ps_expr (pe_mG ME_Ledger_price_from T.cls_Ledger hgd (hr.mono (by decide)) pass0At (pv 8) (pa_cons (pv 11) (pa_cons (pe_dget (hu_of' hr) (pe_dget (hu_of' hr) (pv 6) pe_str (fun _ _ => rfl)) (pv 11) (fun _ _ => rfl)) pa_nil))))))
      (pss_cons (ps_expr (pe_c (dvs := []) O__law_put ⟨[], .nil, B__law_put⟩ hgd (hr.mono (by decide)) pass0At (pa_cons (pv 8) (pa_cons (pv 5) (pa_cons (pe_revLK K (pv 9)) pa_nil)))))
      (pss_one (ps_if (PW.pt (pw_and (pt_cmpR (op_neDK K hr.units) (pv 9) (pe_lst pa_nil) (nomark _)) (pw_and1 (pt_cmpR op_ne (pe_callB (call_reprD K hgd (un130 hr)) (by rfl) T.b_repr (by decide +kernel) (pa_cons (pe_mG ME_Ledger_account T.cls_Ledger hgd (hr.mono (by decide)) pass0At (pv 8) (pa_cons (pv 5) pa_nil)) pa_nil)) (pe_callB (call_reprD K hgd (un130 hr)) (by rfl) T.b_repr (by decide +kernel) (pa_cons (pe_c (dvs := []) O__law_account ⟨[], .nil, B__law_account⟩ hgd (hr.mono (by decide)) pass0At (pa_cons (pv 6) (pa_cons (pv 5) pa_nil))) pa_nil)) (nomark _)))))
      (pss_one (ps_ret pe_bl))
      pss_nil)))))))))))
      (pss_one (ps_ret pe_bl)))), ?_⟩
    exact law_ok (W := (⟨K, c.cm, tkD, [], none⟩ : Wp)) (N := nm_law) (i := 1) (δ := b_law_1) (fun _ _ => rfl) law_true
      ((ds_seq (ds_for (g := (.nm 2)) (di_range1 (da_cons dn_int da_nil))
      (ds_seq (ds_par3 (da_cons (dn_callN (k := 2) (F := d__law_take) (dv := []) (fun _ _ => .nil) (dps_cons (dp_t (i := 1)) (dps_cons (dp_e dn_int) dps_nil))) (da_cons (dn_op od_add dn_int (dn_callN (k := 2) (F := d__law_take) (dv := []) (fun _ _ => .nil) (dps_cons (dp_t (i := 1)) (dps_cons (dp_e dn_int) dps_nil)))) (da_cons (dn_op od_ixL (dn_callN (k := 2) (F := d__law_names) (dv := []) (fun _ _ => .nil) (dps_cons (dp_t (i := 1)) (dps_cons (dp_e dn_int) dps_nil))) dn_int) da_nil))))
      (ds_seq (ds_set (dn_disp (.cons dn_str (dn_v (i := 3)) (.cons dn_str (dn_v (i := 4)) (.cons dn_str (dn_newK (fun _ _ _ => rfl)) (.cons dn_str (dn_newK (fun _ _ _ => rfl)) (.cons dn_str (dn_newT (fun _ _ _ => rfl)) (.cons dn_str (dn_newK (fun _ _ _ => rfl)) .nil))))))))
      (ds_seq (ds_par (da_cons (dn_mkSN (k := 4) (cls := "Ledger") (F := d_LedgerD_initD) (dv := [.fr (.int 2), .fr (.int 13), .fr (.int 3)]) (ix := [.z 0, .z 1, .c 2]) (fun _ _ _ => rfl) T.cm_Ledger (fun _ _ => .cons (show ArgR _ _ _ _ (.fr (.int 2)) from Rp.int _) (.cons (show ArgR _ _ _ _ (.fr (.int 13)) from Rp.int _) (.cons (show ArgR _ _ _ _ (.fr (.int 3)) from Rp.int _) (.nil)))) dps_nil (dps_cons (dp_e (dn_v (i := 3))) (dps_cons (dp_e (dn_v (i := 4))) dps_nil))) (da_cons (dn_mkSN (k := 4) (cls := "Ledger") (F := d_LedgerD_initD) (dv := [.fr (.int 2), .fr (.int 13), .fr (.int 3)]) (ix := [.a 0, .a 1, .c 2]) (fun _ _ _ => rfl) T.cm_Ledger (fun _ _ => .cons (show ArgR _ _ _ _ (.fr (.int 2)) from Rp.int _) (.cons (show ArgR _ _ _ _ (.fr (.int 13)) from Rp.int _) (.cons (show ArgR _ _ _ _ (.fr (.int 3)) from Rp.int _) (.nil)))) (dps_cons (dp_e (dn_v (i := 3))) (dps_cons (dp_e (dn_v (i := 4))) dps_nil)) dps_nil) da_nil)))
      (ds_seq (ds_set (dn_callN (k := 3) (F := d__law_sent) (dv := []) (fun _ _ => .nil) (dps_cons (dp_t (i := 1)) (dps_cons (dp_e (dn_v (i := 6))) (dps_cons (dp_e (dn_v (i := 5))) dps_nil)))))
      (ds_seq (ds_drop (dn_callN (k := 3) (F := d__law_put) (dv := []) (fun _ _ => .nil) (dps_cons (dp_e (dn_v (i := 7))) (dps_cons (dp_e (dn_v (i := 5))) (dps_cons (dp_e (dn_v (i := 9))) dps_nil)))))
      (ds_seq (ds_for (g := (.nm 10)) (di_range1 (da_cons (dn_callN (k := 2) (F := d__law_take) (dv := []) (fun _ _ => .nil) (dps_cons (dp_t (i := 1)) (dps_cons (dp_e dn_int) dps_nil))) da_nil))
      (ds_seq (ds_par (da_cons (dn_callN (k := 2) (F := d__law_take) (dv := []) (fun _ _ => .nil) (dps_cons (dp_t (i := 1)) (dps_cons (dp_e dn_int) dps_nil))) (da_cons (dn_op od_ixL (dn_lst (da_cons dn_int (da_cons (dn_callN (k := 2) (F := d__law_take) (dv := []) (fun _ _ => .nil) (dps_cons (dp_t (i := 1)) (dps_cons (dp_e dn_int) dps_nil))) (da_cons (dn_callN (k := 2) (F := d__law_take) (dv := []) (fun _ _ => .nil) (dps_cons (dp_t (i := 1)) (dps_cons (dp_e (dn_op od_pow dn_int dn_int)) dps_nil))) da_nil)))) (dn_callN (k := 2) (F := d__law_take) (dv := []) (fun _ _ => .nil) (dps_cons (dp_t (i := 1)) (dps_cons (dp_e dn_int) dps_nil)))) da_nil)))
      (ds_seq (ds_drop (dn_smeKN (k := 3) (cls := "Ledger") (nm := "price_from") (F := d_Ledger_price_from) (dv := []) (ix := [.a 0, .z 1, .z 0]) T.cm_Ledger (fun _ _ => .nil) (dn_v (i := 7)) dps_nil (dps_cons (dp_e (dn_v (i := 12))) (dps_cons (dp_e (dn_v (i := 11))) dps_nil))))
      (ds_seq (ds_dPut (fun _ _ _ => rfl) (dn_dget (dn_v (i := 6)) dn_str) (dn_v (i := 11)) (dn_v (i := 12)))
      (ds_seq (ds_drop (dn_callN (k := 4) (F := d__law_paid) (dv := []) (fun _ _ => .nil) (dps_cons (dp_e (dn_v (i := 7))) (dps_cons (dp_e (dn_v (i := 6))) (dps_cons (dp_e (dn_v (i := 5))) (dps_cons (dp_e (dn_op od_sub (dn_callN (k := 2) (F := d__law_take) (dv := []) (fun _ _ => .nil) (dps_cons (dp_t (i := 1)) (dps_cons (dp_e dn_int) dps_nil))) dn_int)) dps_nil))))))
      (ds_seq (ds_if (dt_and (dt_test (dn_op od_neD (dn_v (i := 9)) (dn_lst da_nil))) (dt_test (dn_op od_ne (dn_cb cd_repr (da_cons (dn_smeN (k := 2) (cls := "Ledger") (m := "account") (F := d_Ledger_account) T.cm_Ledger (dn_v (i := 7)) (dps_cons (dp_e (dn_v (i := 5))) dps_nil)) da_nil)) (dn_cb cd_repr (da_cons (dn_callN (k := 2) (F := d__law_account) (dv := []) (fun _ _ => .nil) (dps_cons (dp_e (dn_v (i := 6))) (dps_cons (dp_e (dn_v (i := 5))) dps_nil))) da_nil)))))
      (ds_ret dn_bl)
      ds_next)
      (ds_if (dt_and (dt_test (dn_op od_neD (dn_v (i := 9)) (dn_lst da_nil))) (dt_test (dn_op od_ne (dn_smeN (k := 2) (cls := "Ledger") (m := "owes") (F := d_Ledger_owes) T.cm_Ledger (dn_v (i := 7)) (dps_cons (dp_e (dn_v (i := 5))) dps_nil)) (dn_callN (k := 2) (F := d__law_owes) (dv := []) (fun _ _ => .nil) (dps_cons (dp_e (dn_v (i := 6))) (dps_cons (dp_e (dn_v (i := 5))) dps_nil))))))
      (ds_ret dn_bl)
      ds_next)))))))
      (ds_seq (ds_for (g := (.nm 11)) (di_list (dn_revL (dn_sortDK (da_cons (dn_dget (dn_v (i := 6)) dn_str) da_nil))))
      (ds_drop (dn_smeN (k := 3) (cls := "Ledger") (m := "price_from") (F := d_Ledger_price_from) T.cm_Ledger (dn_v (i := 8)) (dps_cons (dp_e (dn_v (i := 11))) (dps_cons (dp_e (dn_sdget (dn_dget (dn_v (i := 6)) dn_str) (dn_v (i := 11)))) dps_nil)))))
      (ds_seq (ds_drop (dn_callN (k := 3) (F := d__law_put) (dv := []) (fun _ _ => .nil) (dps_cons (dp_e (dn_v (i := 8))) (dps_cons (dp_e (dn_v (i := 5))) (dps_cons (dp_e (dn_revL (dn_v (i := 9)))) dps_nil)))))
      (ds_if (dt_and (dt_test (dn_op od_neD (dn_v (i := 9)) (dn_lst da_nil))) (dt_test (dn_op od_ne (dn_cb cd_repr (da_cons (dn_smeN (k := 2) (cls := "Ledger") (m := "account") (F := d_Ledger_account) T.cm_Ledger (dn_v (i := 8)) (dps_cons (dp_e (dn_v (i := 5))) dps_nil)) da_nil)) (dn_cb cd_repr (da_cons (dn_callN (k := 2) (F := d__law_account) (dv := []) (fun _ _ => .nil) (dps_cons (dp_e (dn_v (i := 6))) (dps_cons (dp_e (dn_v (i := 5))) dps_nil))) da_nil)))))
      (ds_ret dn_bl)
      ds_next))))))))))
      (ds_ret dn_bl))) (fun p hp => LamX.TabS.nil (h.2 p hp)) h.1
end Nk64
set_option Elab.async false
set_option linter.all false
set_option maxRecDepth 100000
set_option maxHeartbeats 4000000
namespace Nk64
open PySem L2 Np
theorem all_mk {l : PySem.W.OpenLaw} {w : World} {K : PySem.W.Frag} {h : Heap} {mg : Str → Option Value} {fa : Addr} {f__wall f_money_text f__law_held f__law_take f__law_names f__law_price f__law_account f__law_owes f__law_sent f__law_put f__law_paid f_law f_AccountD_initD f_Account_out_of f_Account_nights_told f_LedgerD_initD f_Ledger_account_of f_Ledger_price_at f_Ledger_cost_of f_Ledger_send f_Ledger_back f_Ledger_pay f_Ledger_price_from f_Ledger_account f_Ledger_owes : Addr} {C_Unknown C_TooMany C_TooLate C_Account C_Ledger : Addr}
    (X : K.In h) (G : h.Ns mainGlobals mg) (hfa : mg "law" = some (.ref fa))
    {od__wall an__wall od_money_text an_money_text od__law_held an__law_held od__law_take an__law_take od__law_names an__law_names od__law_price an__law_price od__law_account an__law_account od__law_owes an__law_owes od__law_sent an__law_sent od__law_put an__law_put od__law_paid an__law_paid od_law an_law od_AccountD_initD an_AccountD_initD od_Account_out_of an_Account_out_of od_Account_nights_told an_Account_nights_told od_LedgerD_initD an_LedgerD_initD od_Ledger_account_of an_Ledger_account_of od_Ledger_price_at an_Ledger_price_at od_Ledger_cost_of an_Ledger_cost_of od_Ledger_send an_Ledger_send od_Ledger_back an_Ledger_back od_Ledger_pay an_Ledger_pay od_Ledger_price_from an_Ledger_price_from od_Ledger_account an_Ledger_account od_Ledger_owes an_Ledger_owes : Option Addr} {sl__wall sl_money_text sl__law_held sl__law_take sl__law_names sl__law_price sl__law_account sl__law_owes sl__law_sent sl__law_put sl__law_paid sl_law sl_AccountD_initD sl_Account_out_of sl_Account_nights_told sl_LedgerD_initD sl_Ledger_account_of sl_Ledger_price_at sl_Ledger_cost_of sl_Ledger_send sl_Ledger_back sl_Ledger_pay sl_Ledger_price_from sl_Ledger_account sl_Ledger_owes : Array (Option Value)}
    {oc__wall kV__wall dc__wall pm__wall cd__wall ct__wall oc_money_text kV_money_text dc_money_text pm_money_text cd_money_text ct_money_text oc__law_held kV__law_held dc__law_held pm__law_held cd__law_held ct__law_held oc__law_take kV__law_take dc__law_take pm__law_take cd__law_take ct__law_take oc__law_names kV__law_names dc__law_names pm__law_names cd__law_names ct__law_names oc__law_price kV__law_price dc__law_price pm__law_price cd__law_price ct__law_price oc__law_account kV__law_account dc__law_account pm__law_account cd__law_account ct__law_account oc__law_owes kV__law_owes dc__law_owes pm__law_owes cd__law_owes ct__law_owes oc__law_sent kV__law_sent dc__law_sent pm__law_sent cd__law_sent ct__law_sent oc__law_put kV__law_put dc__law_put pm__law_put cd__law_put ct__law_put oc__law_paid kV__law_paid dc__law_paid pm__law_paid cd__law_paid ct__law_paid oc_law kV_law dc_law pm_law cd_law ct_law oc_AccountD_initD kV_AccountD_initD dc_AccountD_initD pm_AccountD_initD cd_AccountD_initD ct_AccountD_initD oc_Account_out_of kV_Account_out_of dc_Account_out_of pm_Account_out_of cd_Account_out_of ct_Account_out_of oc_Account_nights_told kV_Account_nights_told dc_Account_nights_told pm_Account_nights_told cd_Account_nights_told ct_Account_nights_told oc_LedgerD_initD dv_LedgerD_initD kV_LedgerD_initD dc_LedgerD_initD pm_LedgerD_initD cd_LedgerD_initD ct_LedgerD_initD oc_Ledger_account_of kV_Ledger_account_of dc_Ledger_account_of pm_Ledger_account_of cd_Ledger_account_of ct_Ledger_account_of oc_Ledger_price_at kV_Ledger_price_at dc_Ledger_price_at pm_Ledger_price_at cd_Ledger_price_at ct_Ledger_price_at oc_Ledger_cost_of kV_Ledger_cost_of dc_Ledger_cost_of pm_Ledger_cost_of cd_Ledger_cost_of ct_Ledger_cost_of oc_Ledger_send kV_Ledger_send dc_Ledger_send pm_Ledger_send cd_Ledger_send ct_Ledger_send oc_Ledger_back kV_Ledger_back dc_Ledger_back pm_Ledger_back cd_Ledger_back ct_Ledger_back oc_Ledger_pay kV_Ledger_pay dc_Ledger_pay pm_Ledger_pay cd_Ledger_pay ct_Ledger_pay oc_Ledger_price_from kV_Ledger_price_from dc_Ledger_price_from pm_Ledger_price_from cd_Ledger_price_from ct_Ledger_price_from oc_Ledger_account kV_Ledger_account dc_Ledger_account pm_Ledger_account cd_Ledger_account ct_Ledger_account oc_Ledger_owes kV_Ledger_owes dc_Ledger_owes pm_Ledger_owes cd_Ledger_owes ct_Ledger_owes : Value}
    (a__wall : PySem.W.nsIn K mainGlobals "_wall" = some (some (.ref f__wall)))
    (a_money_text : PySem.W.nsIn K mainGlobals "money_text" = some (some (.ref f_money_text)))
    (a__law_held : PySem.W.nsIn K mainGlobals "_law_held" = some (some (.ref f__law_held)))
    (a__law_take : PySem.W.nsIn K mainGlobals "_law_take" = some (some (.ref f__law_take)))
    (a__law_names : PySem.W.nsIn K mainGlobals "_law_names" = some (some (.ref f__law_names)))
    (a__law_price : PySem.W.nsIn K mainGlobals "_law_price" = some (some (.ref f__law_price)))
    (a__law_account : PySem.W.nsIn K mainGlobals "_law_account" = some (some (.ref f__law_account)))
    (a__law_owes : PySem.W.nsIn K mainGlobals "_law_owes" = some (some (.ref f__law_owes)))
    (a__law_sent : PySem.W.nsIn K mainGlobals "_law_sent" = some (some (.ref f__law_sent)))
    (a__law_put : PySem.W.nsIn K mainGlobals "_law_put" = some (some (.ref f__law_put)))
    (a__law_paid : PySem.W.nsIn K mainGlobals "_law_paid" = some (some (.ref f__law_paid)))
    (a_law : PySem.W.nsIn K mainGlobals "law" = some (some (.ref f_law)))
    (a_Unknown : PySem.W.nsIn K mainGlobals "Unknown" = some (some (.ref C_Unknown)))
    (a_TooMany : PySem.W.nsIn K mainGlobals "TooMany" = some (some (.ref C_TooMany)))
    (a_TooLate : PySem.W.nsIn K mainGlobals "TooLate" = some (some (.ref C_TooLate)))
    (a_Account : PySem.W.nsIn K mainGlobals "Account" = some (some (.ref C_Account)))
    (a_Ledger : PySem.W.nsIn K mainGlobals "Ledger" = some (some (.ref C_Ledger)))
    (l__wall : K.lookup f__wall = some ⟨oc__wall, od__wall, .func (PySem.W.fnOf "_wall" "_wall" (defArgs s__wall) (defBody s__wall) (defScope s__wall) .none kV__wall dc__wall pm__wall an__wall cd__wall ct__wall), sl__wall⟩)
    (c__wall : PySem.W.codeIn K cd__wall "_wall" = true)
    (k__wall : PySem.W.keepIn K (.ref f__wall) = true)
    (l_money_text : K.lookup f_money_text = some ⟨oc_money_text, od_money_text, .func (PySem.W.fnOf "money_text" "money_text" (defArgs s_money_text) (defBody s_money_text) (defScope s_money_text) .none kV_money_text dc_money_text pm_money_text an_money_text cd_money_text ct_money_text), sl_money_text⟩)
    (c_money_text : PySem.W.codeIn K cd_money_text "money_text" = true)
    (k_money_text : PySem.W.keepIn K (.ref f_money_text) = true)
    (l__law_held : K.lookup f__law_held = some ⟨oc__law_held, od__law_held, .func (PySem.W.fnOf "_law_held" "_law_held" (defArgs s__law_held) (defBody s__law_held) (defScope s__law_held) .none kV__law_held dc__law_held pm__law_held an__law_held cd__law_held ct__law_held), sl__law_held⟩)
    (c__law_held : PySem.W.codeIn K cd__law_held "_law_held" = true)
    (k__law_held : PySem.W.keepIn K (.ref f__law_held) = true)
    (l__law_take : K.lookup f__law_take = some ⟨oc__law_take, od__law_take, .func (PySem.W.fnOf "_law_take" "_law_take" (defArgs s__law_take) (defBody s__law_take) (defScope s__law_take) .none kV__law_take dc__law_take pm__law_take an__law_take cd__law_take ct__law_take), sl__law_take⟩)
    (c__law_take : PySem.W.codeIn K cd__law_take "_law_take" = true)
    (k__law_take : PySem.W.keepIn K (.ref f__law_take) = true)
    (l__law_names : K.lookup f__law_names = some ⟨oc__law_names, od__law_names, .func (PySem.W.fnOf "_law_names" "_law_names" (defArgs s__law_names) (defBody s__law_names) (defScope s__law_names) .none kV__law_names dc__law_names pm__law_names an__law_names cd__law_names ct__law_names), sl__law_names⟩)
    (c__law_names : PySem.W.codeIn K cd__law_names "_law_names" = true)
    (k__law_names : PySem.W.keepIn K (.ref f__law_names) = true)
    (l__law_price : K.lookup f__law_price = some ⟨oc__law_price, od__law_price, .func (PySem.W.fnOf "_law_price" "_law_price" (defArgs s__law_price) (defBody s__law_price) (defScope s__law_price) .none kV__law_price dc__law_price pm__law_price an__law_price cd__law_price ct__law_price), sl__law_price⟩)
    (c__law_price : PySem.W.codeIn K cd__law_price "_law_price" = true)
    (k__law_price : PySem.W.keepIn K (.ref f__law_price) = true)
    (l__law_account : K.lookup f__law_account = some ⟨oc__law_account, od__law_account, .func (PySem.W.fnOf "_law_account" "_law_account" (defArgs s__law_account) (defBody s__law_account) (defScope s__law_account) .none kV__law_account dc__law_account pm__law_account an__law_account cd__law_account ct__law_account), sl__law_account⟩)
    (c__law_account : PySem.W.codeIn K cd__law_account "_law_account" = true)
    (k__law_account : PySem.W.keepIn K (.ref f__law_account) = true)
    (l__law_owes : K.lookup f__law_owes = some ⟨oc__law_owes, od__law_owes, .func (PySem.W.fnOf "_law_owes" "_law_owes" (defArgs s__law_owes) (defBody s__law_owes) (defScope s__law_owes) .none kV__law_owes dc__law_owes pm__law_owes an__law_owes cd__law_owes ct__law_owes), sl__law_owes⟩)
    (c__law_owes : PySem.W.codeIn K cd__law_owes "_law_owes" = true)
    (k__law_owes : PySem.W.keepIn K (.ref f__law_owes) = true)
    (l__law_sent : K.lookup f__law_sent = some ⟨oc__law_sent, od__law_sent, .func (PySem.W.fnOf "_law_sent" "_law_sent" (defArgs s__law_sent) (defBody s__law_sent) (defScope s__law_sent) .none kV__law_sent dc__law_sent pm__law_sent an__law_sent cd__law_sent ct__law_sent), sl__law_sent⟩)
    (c__law_sent : PySem.W.codeIn K cd__law_sent "_law_sent" = true)
    (k__law_sent : PySem.W.keepIn K (.ref f__law_sent) = true)
    (l__law_put : K.lookup f__law_put = some ⟨oc__law_put, od__law_put, .func (PySem.W.fnOf "_law_put" "_law_put" (defArgs s__law_put) (defBody s__law_put) (defScope s__law_put) .none kV__law_put dc__law_put pm__law_put an__law_put cd__law_put ct__law_put), sl__law_put⟩)
    (c__law_put : PySem.W.codeIn K cd__law_put "_law_put" = true)
    (k__law_put : PySem.W.keepIn K (.ref f__law_put) = true)
    (l__law_paid : K.lookup f__law_paid = some ⟨oc__law_paid, od__law_paid, .func (PySem.W.fnOf "_law_paid" "_law_paid" (defArgs s__law_paid) (defBody s__law_paid) (defScope s__law_paid) .none kV__law_paid dc__law_paid pm__law_paid an__law_paid cd__law_paid ct__law_paid), sl__law_paid⟩)
    (c__law_paid : PySem.W.codeIn K cd__law_paid "_law_paid" = true)
    (k__law_paid : PySem.W.keepIn K (.ref f__law_paid) = true)
    (l_law : K.lookup f_law = some ⟨oc_law, od_law, .func (PySem.W.fnOf "law" "law" (defArgs s_law) (defBody s_law) (defScope s_law) .none kV_law dc_law pm_law an_law cd_law ct_law), sl_law⟩)
    (c_law : PySem.W.codeIn K cd_law "law" = true)
    (k_law : PySem.W.keepIn K (.ref f_law) = true)
    (fi_AccountD_initD : PySem.W.findIn K (.ref C_Account) "__init__" = some (some (.ref f_AccountD_initD)))
    (xf_AccountD_initD : PySem.W.isFn K (.ref f_AccountD_initD) = true)
    (ft_AccountD_initD : PySem.W.typeIn K (.ref f_AccountD_initD) = some (.type "function"))
    (l_AccountD_initD : K.lookup f_AccountD_initD = some ⟨oc_AccountD_initD, od_AccountD_initD, .func (PySem.W.fnOf "__init__" "Account.__init__" (defArgs s_AccountD_initD) (defBody s_AccountD_initD) (defScope s_AccountD_initD) .none kV_AccountD_initD dc_AccountD_initD pm_AccountD_initD an_AccountD_initD cd_AccountD_initD ct_AccountD_initD), sl_AccountD_initD⟩)
    (c_AccountD_initD : PySem.W.codeIn K cd_AccountD_initD "Account.__init__" = true)
    (k_AccountD_initD : PySem.W.keepIn K (.ref f_AccountD_initD) = true)
    (fi_Account_out_of : PySem.W.findIn K (.ref C_Account) "out_of" = some (some (.ref f_Account_out_of)))
    (xf_Account_out_of : PySem.W.isFn K (.ref f_Account_out_of) = true)
    (ft_Account_out_of : PySem.W.typeIn K (.ref f_Account_out_of) = some (.type "function"))
    (l_Account_out_of : K.lookup f_Account_out_of = some ⟨oc_Account_out_of, od_Account_out_of, .func (PySem.W.fnOf "out_of" "Account.out_of" (defArgs s_Account_out_of) (defBody s_Account_out_of) (defScope s_Account_out_of) .none kV_Account_out_of dc_Account_out_of pm_Account_out_of an_Account_out_of cd_Account_out_of ct_Account_out_of), sl_Account_out_of⟩)
    (c_Account_out_of : PySem.W.codeIn K cd_Account_out_of "Account.out_of" = true)
    (k_Account_out_of : PySem.W.keepIn K (.ref f_Account_out_of) = true)
    (fi_Account_nights_told : PySem.W.findIn K (.ref C_Account) "nights_told" = some (some (.ref f_Account_nights_told)))
    (xf_Account_nights_told : PySem.W.isFn K (.ref f_Account_nights_told) = true)
    (ft_Account_nights_told : PySem.W.typeIn K (.ref f_Account_nights_told) = some (.type "function"))
    (l_Account_nights_told : K.lookup f_Account_nights_told = some ⟨oc_Account_nights_told, od_Account_nights_told, .func (PySem.W.fnOf "nights_told" "Account.nights_told" (defArgs s_Account_nights_told) (defBody s_Account_nights_told) (defScope s_Account_nights_told) .none kV_Account_nights_told dc_Account_nights_told pm_Account_nights_told an_Account_nights_told cd_Account_nights_told ct_Account_nights_told), sl_Account_nights_told⟩)
    (c_Account_nights_told : PySem.W.codeIn K cd_Account_nights_told "Account.nights_told" = true)
    (k_Account_nights_told : PySem.W.keepIn K (.ref f_Account_nights_told) = true)
    (fi_LedgerD_initD : PySem.W.findIn K (.ref C_Ledger) "__init__" = some (some (.ref f_LedgerD_initD)))
    (xf_LedgerD_initD : PySem.W.isFn K (.ref f_LedgerD_initD) = true)
    (ft_LedgerD_initD : PySem.W.typeIn K (.ref f_LedgerD_initD) = some (.type "function"))
    (l_LedgerD_initD : K.lookup f_LedgerD_initD = some ⟨oc_LedgerD_initD, od_LedgerD_initD, .func (PySem.W.fnOf "__init__" "Ledger.__init__" (defArgs s_LedgerD_initD) (defBody s_LedgerD_initD) (defScope s_LedgerD_initD) dv_LedgerD_initD kV_LedgerD_initD dc_LedgerD_initD pm_LedgerD_initD an_LedgerD_initD cd_LedgerD_initD ct_LedgerD_initD), sl_LedgerD_initD⟩)
    (c_LedgerD_initD : PySem.W.codeIn K cd_LedgerD_initD "Ledger.__init__" = true)
    (k_LedgerD_initD : PySem.W.keepIn K (.ref f_LedgerD_initD) = true)
    {dT_LedgerD_initD : Addr} {dO_LedgerD_initD : Obj} {dI_LedgerD_initD : List Value} {dN_LedgerD_initD : Nat}
    (d1_LedgerD_initD : dv_LedgerD_initD = .ref dT_LedgerD_initD)
    (d2_LedgerD_initD : K.lookup dT_LedgerD_initD = some dO_LedgerD_initD)
    (d3_LedgerD_initD : dO_LedgerD_initD.data = .seq dI_LedgerD_initD.toArray dN_LedgerD_initD)
    (d4_LedgerD_initD : Vals [(.int 2), (.int 13), (.int 3)] dI_LedgerD_initD)
    (fi_Ledger_account_of : PySem.W.findIn K (.ref C_Ledger) "account_of" = some (some (.ref f_Ledger_account_of)))
    (xf_Ledger_account_of : PySem.W.isFn K (.ref f_Ledger_account_of) = true)
    (ft_Ledger_account_of : PySem.W.typeIn K (.ref f_Ledger_account_of) = some (.type "function"))
    (l_Ledger_account_of : K.lookup f_Ledger_account_of = some ⟨oc_Ledger_account_of, od_Ledger_account_of, .func (PySem.W.fnOf "account_of" "Ledger.account_of" (defArgs s_Ledger_account_of) (defBody s_Ledger_account_of) (defScope s_Ledger_account_of) .none kV_Ledger_account_of dc_Ledger_account_of pm_Ledger_account_of an_Ledger_account_of cd_Ledger_account_of ct_Ledger_account_of), sl_Ledger_account_of⟩)
    (c_Ledger_account_of : PySem.W.codeIn K cd_Ledger_account_of "Ledger.account_of" = true)
    (k_Ledger_account_of : PySem.W.keepIn K (.ref f_Ledger_account_of) = true)
    (fi_Ledger_price_at : PySem.W.findIn K (.ref C_Ledger) "price_at" = some (some (.ref f_Ledger_price_at)))
    (xf_Ledger_price_at : PySem.W.isFn K (.ref f_Ledger_price_at) = true)
    (ft_Ledger_price_at : PySem.W.typeIn K (.ref f_Ledger_price_at) = some (.type "function"))
    (l_Ledger_price_at : K.lookup f_Ledger_price_at = some ⟨oc_Ledger_price_at, od_Ledger_price_at, .func (PySem.W.fnOf "price_at" "Ledger.price_at" (defArgs s_Ledger_price_at) (defBody s_Ledger_price_at) (defScope s_Ledger_price_at) .none kV_Ledger_price_at dc_Ledger_price_at pm_Ledger_price_at an_Ledger_price_at cd_Ledger_price_at ct_Ledger_price_at), sl_Ledger_price_at⟩)
    (c_Ledger_price_at : PySem.W.codeIn K cd_Ledger_price_at "Ledger.price_at" = true)
    (k_Ledger_price_at : PySem.W.keepIn K (.ref f_Ledger_price_at) = true)
    (fi_Ledger_cost_of : PySem.W.findIn K (.ref C_Ledger) "cost_of" = some (some (.ref f_Ledger_cost_of)))
    (xf_Ledger_cost_of : PySem.W.isFn K (.ref f_Ledger_cost_of) = true)
    (ft_Ledger_cost_of : PySem.W.typeIn K (.ref f_Ledger_cost_of) = some (.type "function"))
    (l_Ledger_cost_of : K.lookup f_Ledger_cost_of = some ⟨oc_Ledger_cost_of, od_Ledger_cost_of, .func (PySem.W.fnOf "cost_of" "Ledger.cost_of" (defArgs s_Ledger_cost_of) (defBody s_Ledger_cost_of) (defScope s_Ledger_cost_of) .none kV_Ledger_cost_of dc_Ledger_cost_of pm_Ledger_cost_of an_Ledger_cost_of cd_Ledger_cost_of ct_Ledger_cost_of), sl_Ledger_cost_of⟩)
    (c_Ledger_cost_of : PySem.W.codeIn K cd_Ledger_cost_of "Ledger.cost_of" = true)
    (k_Ledger_cost_of : PySem.W.keepIn K (.ref f_Ledger_cost_of) = true)
    (fi_Ledger_send : PySem.W.findIn K (.ref C_Ledger) "send" = some (some (.ref f_Ledger_send)))
    (xf_Ledger_send : PySem.W.isFn K (.ref f_Ledger_send) = true)
    (ft_Ledger_send : PySem.W.typeIn K (.ref f_Ledger_send) = some (.type "function"))
    (l_Ledger_send : K.lookup f_Ledger_send = some ⟨oc_Ledger_send, od_Ledger_send, .func (PySem.W.fnOf "send" "Ledger.send" (defArgs s_Ledger_send) (defBody s_Ledger_send) (defScope s_Ledger_send) .none kV_Ledger_send dc_Ledger_send pm_Ledger_send an_Ledger_send cd_Ledger_send ct_Ledger_send), sl_Ledger_send⟩)
    (c_Ledger_send : PySem.W.codeIn K cd_Ledger_send "Ledger.send" = true)
    (k_Ledger_send : PySem.W.keepIn K (.ref f_Ledger_send) = true)
    (fi_Ledger_back : PySem.W.findIn K (.ref C_Ledger) "back" = some (some (.ref f_Ledger_back)))
    (xf_Ledger_back : PySem.W.isFn K (.ref f_Ledger_back) = true)
    (ft_Ledger_back : PySem.W.typeIn K (.ref f_Ledger_back) = some (.type "function"))
    (l_Ledger_back : K.lookup f_Ledger_back = some ⟨oc_Ledger_back, od_Ledger_back, .func (PySem.W.fnOf "back" "Ledger.back" (defArgs s_Ledger_back) (defBody s_Ledger_back) (defScope s_Ledger_back) .none kV_Ledger_back dc_Ledger_back pm_Ledger_back an_Ledger_back cd_Ledger_back ct_Ledger_back), sl_Ledger_back⟩)
    (c_Ledger_back : PySem.W.codeIn K cd_Ledger_back "Ledger.back" = true)
    (k_Ledger_back : PySem.W.keepIn K (.ref f_Ledger_back) = true)
    (fi_Ledger_pay : PySem.W.findIn K (.ref C_Ledger) "pay" = some (some (.ref f_Ledger_pay)))
    (xf_Ledger_pay : PySem.W.isFn K (.ref f_Ledger_pay) = true)
    (ft_Ledger_pay : PySem.W.typeIn K (.ref f_Ledger_pay) = some (.type "function"))
    (l_Ledger_pay : K.lookup f_Ledger_pay = some ⟨oc_Ledger_pay, od_Ledger_pay, .func (PySem.W.fnOf "pay" "Ledger.pay" (defArgs s_Ledger_pay) (defBody s_Ledger_pay) (defScope s_Ledger_pay) .none kV_Ledger_pay dc_Ledger_pay pm_Ledger_pay an_Ledger_pay cd_Ledger_pay ct_Ledger_pay), sl_Ledger_pay⟩)
    (c_Ledger_pay : PySem.W.codeIn K cd_Ledger_pay "Ledger.pay" = true)
    (k_Ledger_pay : PySem.W.keepIn K (.ref f_Ledger_pay) = true)
    (fi_Ledger_price_from : PySem.W.findIn K (.ref C_Ledger) "price_from" = some (some (.ref f_Ledger_price_from)))
    (xf_Ledger_price_from : PySem.W.isFn K (.ref f_Ledger_price_from) = true)
    (ft_Ledger_price_from : PySem.W.typeIn K (.ref f_Ledger_price_from) = some (.type "function"))
    (l_Ledger_price_from : K.lookup f_Ledger_price_from = some ⟨oc_Ledger_price_from, od_Ledger_price_from, .func (PySem.W.fnOf "price_from" "Ledger.price_from" (defArgs s_Ledger_price_from) (defBody s_Ledger_price_from) (defScope s_Ledger_price_from) .none kV_Ledger_price_from dc_Ledger_price_from pm_Ledger_price_from an_Ledger_price_from cd_Ledger_price_from ct_Ledger_price_from), sl_Ledger_price_from⟩)
    (c_Ledger_price_from : PySem.W.codeIn K cd_Ledger_price_from "Ledger.price_from" = true)
    (k_Ledger_price_from : PySem.W.keepIn K (.ref f_Ledger_price_from) = true)
    (fi_Ledger_account : PySem.W.findIn K (.ref C_Ledger) "account" = some (some (.ref f_Ledger_account)))
    (xf_Ledger_account : PySem.W.isFn K (.ref f_Ledger_account) = true)
    (ft_Ledger_account : PySem.W.typeIn K (.ref f_Ledger_account) = some (.type "function"))
    (l_Ledger_account : K.lookup f_Ledger_account = some ⟨oc_Ledger_account, od_Ledger_account, .func (PySem.W.fnOf "account" "Ledger.account" (defArgs s_Ledger_account) (defBody s_Ledger_account) (defScope s_Ledger_account) .none kV_Ledger_account dc_Ledger_account pm_Ledger_account an_Ledger_account cd_Ledger_account ct_Ledger_account), sl_Ledger_account⟩)
    (c_Ledger_account : PySem.W.codeIn K cd_Ledger_account "Ledger.account" = true)
    (k_Ledger_account : PySem.W.keepIn K (.ref f_Ledger_account) = true)
    (fi_Ledger_owes : PySem.W.findIn K (.ref C_Ledger) "owes" = some (some (.ref f_Ledger_owes)))
    (xf_Ledger_owes : PySem.W.isFn K (.ref f_Ledger_owes) = true)
    (ft_Ledger_owes : PySem.W.typeIn K (.ref f_Ledger_owes) = some (.type "function"))
    (l_Ledger_owes : K.lookup f_Ledger_owes = some ⟨oc_Ledger_owes, od_Ledger_owes, .func (PySem.W.fnOf "owes" "Ledger.owes" (defArgs s_Ledger_owes) (defBody s_Ledger_owes) (defScope s_Ledger_owes) .none kV_Ledger_owes dc_Ledger_owes pm_Ledger_owes an_Ledger_owes cd_Ledger_owes ct_Ledger_owes), sl_Ledger_owes⟩)
    (c_Ledger_owes : PySem.W.codeIn K cd_Ledger_owes "Ledger.owes" = true)
    (k_Ledger_owes : PySem.W.keepIn K (.ref f_Ledger_owes) = true)
    (z_KeyError : PySem.W.nsIn K mainGlobals "KeyError" = some none)
    (z_OverflowError : PySem.W.nsIn K mainGlobals "OverflowError" = some none)
    (z_RuntimeError : PySem.W.nsIn K mainGlobals "RuntimeError" = some none)
    (z_abs : PySem.W.nsIn K mainGlobals "abs" = some none)
    (z_divmod : PySem.W.nsIn K mainGlobals "divmod" = some none)
    (z_isinstance : PySem.W.nsIn K mainGlobals "isinstance" = some none)
    (z_len : PySem.W.nsIn K mainGlobals "len" = some none)
    (z_list : PySem.W.nsIn K mainGlobals "list" = some none)
    (z_max : PySem.W.nsIn K mainGlobals "max" = some none)
    (z_range : PySem.W.nsIn K mainGlobals "range" = some none)
    (z_repr : PySem.W.nsIn K mainGlobals "repr" = some none)
    (z_sorted : PySem.W.nsIn K mainGlobals "sorted" = some none)
    (z_str : PySem.W.nsIn K mainGlobals "str" = some none)
    (z_sum : PySem.W.nsIn K mainGlobals "sum" = some none)
    (cg_Account : PySem.W.plainGet K C_Account Str.empty = true)
    (ch_Account : PySem.W.hasDictIn K C_Account = true)
    (cp_Account : PySem.W.plainOver K C_Account = true)
    (xs_Account : PySem.W.findIn K (.ref C_Account) "__setattr__" = some (some (.builtin "object.__setattr__")))
    (xk_Account : PySem.W.keepIn K (.ref C_Account) = true)
    (xm_Account : PySem.W.makesIn K C_Account = true)
    (no_Account_sent : PySem.W.findIn K (.ref C_Account) "sent" = some none)
    (no_Account_came : PySem.W.findIn K (.ref C_Account) "came" = some none)
    (no_Account_paid : PySem.W.findIn K (.ref C_Account) "paid" = some none)
    (cg_Ledger : PySem.W.plainGet K C_Ledger Str.empty = true)
    (ch_Ledger : PySem.W.hasDictIn K C_Ledger = true)
    (cp_Ledger : PySem.W.plainOver K C_Ledger = true)
    (xs_Ledger : PySem.W.findIn K (.ref C_Ledger) "__setattr__" = some (some (.builtin "object.__setattr__")))
    (xk_Ledger : PySem.W.keepIn K (.ref C_Ledger) = true)
    (xm_Ledger : PySem.W.makesIn K C_Ledger = true)
    (no_Ledger_price : PySem.W.findIn K (.ref C_Ledger) "price" = some none)
    (no_Ledger_free : PySem.W.findIn K (.ref C_Ledger) "free" = some none)
    (no_Ledger_within : PySem.W.findIn K (.ref C_Ledger) "within" = some none)
    (no_Ledger_told_prices : PySem.W.findIn K (.ref C_Ledger) "told_prices" = some none)
    (no_Ledger_accounts : PySem.W.findIn K (.ref C_Ledger) "accounts" = some none)
    : ∃ (c : Ad) (fd : FuncData), (∀ (s : Shared) (v : Value), BindsTo s fd ⟨[v], []⟩ [("_law_script", v)]) ∧ ∀ base : Heap, K.In base → base.Ns mainGlobals mg → FnG l.prog w K mg base CX0 7 fa fd ["_law_script"] (sp_law K c) := by
  have e := hfa.symm.trans (PySem.W.mg_of X G a_law)
  cases e
  have T : Txt K mg (⟨C_Unknown, C_TooMany, C_TooLate, C_Account, C_Ledger, (fun x => if x = "Unknown" then C_Unknown else if x = "TooMany" then C_TooMany else if x = "TooLate" then C_TooLate else if x = "Account" then C_Account else if x = "Ledger" then C_Ledger else 0)⟩ : Ad) := ⟨PySem.W.mg_none_of X G z_KeyError, PySem.W.mg_none_of X G z_OverflowError, PySem.W.mg_none_of X G z_RuntimeError, PySem.W.mg_none_of X G z_abs, PySem.W.mg_none_of X G z_divmod, PySem.W.mg_none_of X G z_isinstance, PySem.W.mg_none_of X G z_len, PySem.W.mg_none_of X G z_list, PySem.W.mg_none_of X G z_max, PySem.W.mg_none_of X G z_range, PySem.W.mg_none_of X G z_repr, PySem.W.mg_none_of X G z_sorted, PySem.W.mg_none_of X G z_str, PySem.W.mg_none_of X G z_sum, PySem.W.mg_of X G a_Unknown, PySem.W.mg_of X G a_TooMany, PySem.W.mg_of X G a_TooLate, PySem.W.mg_of X G a_Account, PySem.W.mg_of X G a_Ledger, rfl, ⟨cg_Account, ch_Account, cp_Account, xs_Account⟩, no_Account_sent, no_Account_came, no_Account_paid, rfl, ⟨cg_Ledger, ch_Ledger, cp_Ledger, xs_Ledger⟩, no_Ledger_price, no_Ledger_free, no_Ledger_within, no_Ledger_told_prices, no_Ledger_accounts⟩
  have F__wall := fun_mk (st := s__wall) l__wall c__wall k__wall
  have F_money_text := fun_mk (st := s_money_text) l_money_text c_money_text k_money_text
  have F__law_held := fun_mk (st := s__law_held) l__law_held c__law_held k__law_held
  have F__law_take := fun_mk (st := s__law_take) l__law_take c__law_take k__law_take
  have F__law_names := fun_mk (st := s__law_names) l__law_names c__law_names k__law_names
  have F__law_price := fun_mk (st := s__law_price) l__law_price c__law_price k__law_price
  have F__law_account := fun_mk (st := s__law_account) l__law_account c__law_account k__law_account
  have F__law_owes := fun_mk (st := s__law_owes) l__law_owes c__law_owes k__law_owes
  have F__law_sent := fun_mk (st := s__law_sent) l__law_sent c__law_sent k__law_sent
  have F__law_put := fun_mk (st := s__law_put) l__law_put c__law_put k__law_put
  have F__law_paid := fun_mk (st := s__law_paid) l__law_paid c__law_paid k__law_paid
  have F_law := fun_mk (st := s_law) l_law c_law k_law
  have F_AccountD_initD := fun_mk (st := s_AccountD_initD) l_AccountD_initD c_AccountD_initD k_AccountD_initD
  have F_Account_out_of := fun_mk (st := s_Account_out_of) l_Account_out_of c_Account_out_of k_Account_out_of
  have F_Account_nights_told := fun_mk (st := s_Account_nights_told) l_Account_nights_told c_Account_nights_told k_Account_nights_told
  have F_LedgerD_initD : FunD K "__init__" "Ledger.__init__" (defArgs s_LedgerD_initD) (defBody s_LedgerD_initD) (defScope s_LedgerD_initD) [(.int 2), (.int 13), (.int 3)] [] f_LedgerD_initD _ := ⟨⟨_, _, _, _, _, _, _, _, _, _, rfl, l_LedgerD_initD, c_LedgerD_initD, Or.inr ⟨fun z => (nomatch z), _, _, _, _, d1_LedgerD_initD, d2_LedgerD_initD, d3_LedgerD_initD, d4_LedgerD_initD⟩, Or.inl rfl⟩, k_LedgerD_initD⟩
  have F_Ledger_account_of := fun_mk (st := s_Ledger_account_of) l_Ledger_account_of c_Ledger_account_of k_Ledger_account_of
  have F_Ledger_price_at := fun_mk (st := s_Ledger_price_at) l_Ledger_price_at c_Ledger_price_at k_Ledger_price_at
  have F_Ledger_cost_of := fun_mk (st := s_Ledger_cost_of) l_Ledger_cost_of c_Ledger_cost_of k_Ledger_cost_of
  have F_Ledger_send := fun_mk (st := s_Ledger_send) l_Ledger_send c_Ledger_send k_Ledger_send
  have F_Ledger_back := fun_mk (st := s_Ledger_back) l_Ledger_back c_Ledger_back k_Ledger_back
  have F_Ledger_pay := fun_mk (st := s_Ledger_pay) l_Ledger_pay c_Ledger_pay k_Ledger_pay
  have F_Ledger_price_from := fun_mk (st := s_Ledger_price_from) l_Ledger_price_from c_Ledger_price_from k_Ledger_price_from
  have F_Ledger_account := fun_mk (st := s_Ledger_account) l_Ledger_account c_Ledger_account k_Ledger_account
  have F_Ledger_owes := fun_mk (st := s_Ledger_owes) l_Ledger_owes c_Ledger_owes k_Ledger_owes
  have B__wall := F__wall.binds (ps := ps__wall) fun _ _ _ _ _ _ us hl => match us, hl with | [_], _ => rfl
  have B_money_text := F_money_text.binds (ps := ps_money_text) fun _ _ _ _ _ _ us hl => match us, hl with | [_], _ => rfl
  have B__law_held := F__law_held.binds (ps := ps__law_held) fun _ _ _ _ _ _ us hl => match us, hl with | [_], _ => rfl
  have B__law_take := F__law_take.binds (ps := ps__law_take) fun _ _ _ _ _ _ us hl => match us, hl with | [_, _], _ => rfl
  have B__law_names := F__law_names.binds (ps := ps__law_names) fun _ _ _ _ _ _ us hl => match us, hl with | [_, _], _ => rfl
  have B__law_price := F__law_price.binds (ps := ps__law_price) fun _ _ _ _ _ _ us hl => match us, hl with | [_, _], _ => rfl
  have B__law_account := F__law_account.binds (ps := ps__law_account) fun _ _ _ _ _ _ us hl => match us, hl with | [_, _], _ => rfl
  have B__law_owes := F__law_owes.binds (ps := ps__law_owes) fun _ _ _ _ _ _ us hl => match us, hl with | [_, _], _ => rfl
  have B__law_sent := F__law_sent.binds (ps := ps__law_sent) fun _ _ _ _ _ _ us hl => match us, hl with | [_, _, _], _ => rfl
  have B__law_put := F__law_put.binds (ps := ps__law_put) fun _ _ _ _ _ _ us hl => match us, hl with | [_, _, _], _ => rfl
  have B__law_paid := F__law_paid.binds (ps := ps__law_paid) fun _ _ _ _ _ _ us hl => match us, hl with | [_, _, _, _], _ => rfl
  have B_AccountD_initD := F_AccountD_initD.binds (ps := ps_AccountD_initD) fun _ _ _ _ _ _ us hl => match us, hl with | [_], _ => rfl
  have B_Account_out_of := F_Account_out_of.binds (ps := ps_Account_out_of) fun _ _ _ _ _ _ us hl => match us, hl with | [_, _], _ => rfl
  have B_Account_nights_told := F_Account_nights_told.binds (ps := ps_Account_nights_told) fun _ _ _ _ _ _ us hl => match us, hl with | [_], _ => rfl
  obtain ⟨ds_LedgerD_initD, hv_LedgerD_initD, B_LedgerD_initD⟩ := F_LedgerD_initD.binds1 (ps := ps_LedgerD_initD) 4 3 (fun z => (nomatch z)) rfl fun _ _ _ _ _ _ _ us its h1 h2 => match us, its, h1, h2 with | [_, _, _, _], [_, _, _], _, _ => ⟨_, rfl, rfl⟩
  cases hv_LedgerD_initD
  have B_Ledger_account_of := F_Ledger_account_of.binds (ps := ps_Ledger_account_of) fun _ _ _ _ _ _ us hl => match us, hl with | [_, _], _ => rfl
  have B_Ledger_price_at := F_Ledger_price_at.binds (ps := ps_Ledger_price_at) fun _ _ _ _ _ _ us hl => match us, hl with | [_, _], _ => rfl
  have B_Ledger_cost_of := F_Ledger_cost_of.binds (ps := ps_Ledger_cost_of) fun _ _ _ _ _ _ us hl => match us, hl with | [_, _, _], _ => rfl
  have B_Ledger_send := F_Ledger_send.binds (ps := ps_Ledger_send) fun _ _ _ _ _ _ us hl => match us, hl with | [_, _, _, _], _ => rfl
  have B_Ledger_back := F_Ledger_back.binds (ps := ps_Ledger_back) fun _ _ _ _ _ _ us hl => match us, hl with | [_, _, _, _, _], _ => rfl
  have B_Ledger_pay := F_Ledger_pay.binds (ps := ps_Ledger_pay) fun _ _ _ _ _ _ us hl => match us, hl with | [_, _, _], _ => rfl
  have B_Ledger_price_from := F_Ledger_price_from.binds (ps := ps_Ledger_price_from) fun _ _ _ _ _ _ us hl => match us, hl with | [_, _, _], _ => rfl
  have B_Ledger_account := F_Ledger_account.binds (ps := ps_Ledger_account) fun _ _ _ _ _ _ us hl => match us, hl with | [_, _], _ => rfl
  have B_Ledger_owes := F_Ledger_owes.binds (ps := ps_Ledger_owes) fun _ _ _ _ _ _ us hl => match us, hl with | [_, _], _ => rfl
  refine ⟨(⟨C_Unknown, C_TooMany, C_TooLate, C_Account, C_Ledger, (fun x => if x = "Unknown" then C_Unknown else if x = "TooMany" then C_TooMany else if x = "TooLate" then C_TooLate else if x = "Account" then C_Account else if x = "Ledger" then C_Ledger else 0)⟩ : Ad), PySem.W.fnOf "law" "law" (defArgs s_law) (defBody s_law) (defScope s_law) .none kV_law dc_law pm_law an_law cd_law ct_law, fun s v => .of_eq rfl, fun base _ _ => ?_⟩
  have G_AccountD_initD : FnG l.prog w K mg base CX0 1 f_AccountD_initD _ ps_AccountD_initD (sp_AccountD_initD K (⟨C_Unknown, C_TooMany, C_TooLate, C_Account, C_Ledger, (fun x => if x = "Unknown" then C_Unknown else if x = "TooMany" then C_TooMany else if x = "TooLate" then C_TooLate else if x = "Account" then C_Account else if x = "Ledger" then C_Ledger else 0)⟩ : Ad)) := ok_AccountD_initD T F_AccountD_initD 
  have MC_Account_0_ : MkC l.prog w K mg base CX0 1 C_Account ps_AccountD_initD (sp_AccountD_initD K (⟨C_Unknown, C_TooMany, C_TooLate, C_Account, C_Ledger, (fun x => if x = "Unknown" then C_Unknown else if x = "TooMany" then C_TooMany else if x = "TooLate" then C_TooLate else if x = "Account" then C_Account else if x = "Ledger" then C_Ledger else 0)⟩ : Ad)) 0 [] (pickL [] (.a 0 :: [].map shIx)) := ⟨f_AccountD_initD, _, ⟨xm_Account, fi_AccountD_initD, xf_AccountD_initD, xk_Account⟩, G_AccountD_initD, Fun.kbp F_AccountD_initD 1 _ (.a 0 :: [].map shIx) fun _ _ _ _ _ _ us ws h1 h2 => match us, ws, h1, h2 with | [_], [], _, _ => rfl⟩
  have G_Account_out_of : FnG l.prog w K mg base CX0 1 f_Account_out_of _ ps_Account_out_of (sp_Account_out_of K (⟨C_Unknown, C_TooMany, C_TooLate, C_Account, C_Ledger, (fun x => if x = "Unknown" then C_Unknown else if x = "TooMany" then C_TooMany else if x = "TooLate" then C_TooLate else if x = "Account" then C_Account else if x = "Ledger" then C_Ledger else 0)⟩ : Ad)) := ok_Account_out_of T F_Account_out_of 
  have ME_Account_out_of : MeC l.prog w K mg base CX0 1 C_Account "out_of" ps_Account_out_of (sp_Account_out_of K (⟨C_Unknown, C_TooMany, C_TooLate, C_Account, C_Ledger, (fun x => if x = "Unknown" then C_Unknown else if x = "TooMany" then C_TooMany else if x = "TooLate" then C_TooLate else if x = "Account" then C_Account else if x = "Ledger" then C_Ledger else 0)⟩ : Ad)) := ⟨f_Account_out_of, _, ⟨fi_Account_out_of, xf_Account_out_of, k_Account_out_of⟩, G_Account_out_of, B_Account_out_of⟩
  have G_Account_nights_told : FnG l.prog w K mg base CX0 1 f_Account_nights_told _ ps_Account_nights_told (sp_Account_nights_told K (⟨C_Unknown, C_TooMany, C_TooLate, C_Account, C_Ledger, (fun x => if x = "Unknown" then C_Unknown else if x = "TooMany" then C_TooMany else if x = "TooLate" then C_TooLate else if x = "Account" then C_Account else if x = "Ledger" then C_Ledger else 0)⟩ : Ad)) := ok_Account_nights_told T F_Account_nights_told 
  have ME_Account_nights_told : MeC l.prog w K mg base CX0 1 C_Account "nights_told" ps_Account_nights_told (sp_Account_nights_told K (⟨C_Unknown, C_TooMany, C_TooLate, C_Account, C_Ledger, (fun x => if x = "Unknown" then C_Unknown else if x = "TooMany" then C_TooMany else if x = "TooLate" then C_TooLate else if x = "Account" then C_Account else if x = "Ledger" then C_Ledger else 0)⟩ : Ad)) := ⟨f_Account_nights_told, _, ⟨fi_Account_nights_told, xf_Account_nights_told, k_Account_nights_told⟩, G_Account_nights_told, B_Account_nights_told⟩
  have G_LedgerD_initD : FnG l.prog w K mg base CX0 1 f_LedgerD_initD _ ps_LedgerD_initD (sp_LedgerD_initD K (⟨C_Unknown, C_TooMany, C_TooLate, C_Account, C_Ledger, (fun x => if x = "Unknown" then C_Unknown else if x = "TooMany" then C_TooMany else if x = "TooLate" then C_TooLate else if x = "Account" then C_Account else if x = "Ledger" then C_Ledger else 0)⟩ : Ad)) := ok_LedgerD_initD T F_LedgerD_initD 
  have MC_Ledger_2_ : MkC l.prog w K mg base CX0 1 C_Ledger ps_LedgerD_initD (sp_LedgerD_initD K (⟨C_Unknown, C_TooMany, C_TooLate, C_Account, C_Ledger, (fun x => if x = "Unknown" then C_Unknown else if x = "TooMany" then C_TooMany else if x = "TooLate" then C_TooLate else if x = "Account" then C_Account else if x = "Ledger" then C_Ledger else 0)⟩ : Ad)) 2 [] (pickL [(.int 2), (.int 13), (.int 3)] (.a 0 :: [.a 0, .a 1, .c 2].map shIx)) := ⟨f_LedgerD_initD, _, ⟨xm_Ledger, fi_LedgerD_initD, xf_LedgerD_initD, xk_Ledger⟩, G_LedgerD_initD, FunD.kbp F_LedgerD_initD 3 _ (.a 0 :: [.a 0, .a 1, .c 2].map shIx) (fun z => (nomatch z)) fun _ _ _ _ _ _ _ us its ws h1 h2 h3 => match us, its, ws, h1, h2, h3 with | [_, _, _], [_, _, _], [], _, _, _ => ⟨_, rfl, rfl⟩⟩
  have MC_Ledger_0_price_free : MkC l.prog w K mg base CX0 1 C_Ledger ps_LedgerD_initD (sp_LedgerD_initD K (⟨C_Unknown, C_TooMany, C_TooLate, C_Account, C_Ledger, (fun x => if x = "Unknown" then C_Unknown else if x = "TooMany" then C_TooMany else if x = "TooLate" then C_TooLate else if x = "Account" then C_Account else if x = "Ledger" then C_Ledger else 0)⟩ : Ad)) 0 ["price", "free"] (pickL [(.int 2), (.int 13), (.int 3)] (.a 0 :: [.z 0, .z 1, .c 2].map shIx)) := ⟨f_LedgerD_initD, _, ⟨xm_Ledger, fi_LedgerD_initD, xf_LedgerD_initD, xk_Ledger⟩, G_LedgerD_initD, FunD.kbp F_LedgerD_initD 1 _ (.a 0 :: [.z 0, .z 1, .c 2].map shIx) (fun z => (nomatch z)) fun _ _ _ _ _ _ _ us its ws h1 h2 h3 => match us, its, ws, h1, h2, h3 with | [_], [_, _, _], [_, _], _, _, _ => ⟨_, rfl, rfl⟩⟩
  have G_Ledger_account_of : FnG l.prog w K mg base CX0 4 f_Ledger_account_of _ ps_Ledger_account_of (sp_Ledger_account_of K (⟨C_Unknown, C_TooMany, C_TooLate, C_Account, C_Ledger, (fun x => if x = "Unknown" then C_Unknown else if x = "TooMany" then C_TooMany else if x = "TooLate" then C_TooLate else if x = "Account" then C_Account else if x = "Ledger" then C_Ledger else 0)⟩ : Ad)) := ok_Ledger_account_of T F_Ledger_account_of 
  have ME_Ledger_account_of : MeC l.prog w K mg base CX0 4 C_Ledger "account_of" ps_Ledger_account_of (sp_Ledger_account_of K (⟨C_Unknown, C_TooMany, C_TooLate, C_Account, C_Ledger, (fun x => if x = "Unknown" then C_Unknown else if x = "TooMany" then C_TooMany else if x = "TooLate" then C_TooLate else if x = "Account" then C_Account else if x = "Ledger" then C_Ledger else 0)⟩ : Ad)) := ⟨f_Ledger_account_of, _, ⟨fi_Ledger_account_of, xf_Ledger_account_of, k_Ledger_account_of⟩, G_Ledger_account_of, B_Ledger_account_of⟩
  have G_Ledger_price_at : FnG l.prog w K mg base CX0 1 f_Ledger_price_at _ ps_Ledger_price_at (sp_Ledger_price_at K (⟨C_Unknown, C_TooMany, C_TooLate, C_Account, C_Ledger, (fun x => if x = "Unknown" then C_Unknown else if x = "TooMany" then C_TooMany else if x = "TooLate" then C_TooLate else if x = "Account" then C_Account else if x = "Ledger" then C_Ledger else 0)⟩ : Ad)) := ok_Ledger_price_at T F_Ledger_price_at 
  have ME_Ledger_price_at : MeC l.prog w K mg base CX0 1 C_Ledger "price_at" ps_Ledger_price_at (sp_Ledger_price_at K (⟨C_Unknown, C_TooMany, C_TooLate, C_Account, C_Ledger, (fun x => if x = "Unknown" then C_Unknown else if x = "TooMany" then C_TooMany else if x = "TooLate" then C_TooLate else if x = "Account" then C_Account else if x = "Ledger" then C_Ledger else 0)⟩ : Ad)) := ⟨f_Ledger_price_at, _, ⟨fi_Ledger_price_at, xf_Ledger_price_at, k_Ledger_price_at⟩, G_Ledger_price_at, B_Ledger_price_at⟩
  have G_Ledger_cost_of : FnG l.prog w K mg base CX0 2 f_Ledger_cost_of _ ps_Ledger_cost_of (sp_Ledger_cost_of K (⟨C_Unknown, C_TooMany, C_TooLate, C_Account, C_Ledger, (fun x => if x = "Unknown" then C_Unknown else if x = "TooMany" then C_TooMany else if x = "TooLate" then C_TooLate else if x = "Account" then C_Account else if x = "Ledger" then C_Ledger else 0)⟩ : Ad)) := ok_Ledger_cost_of T F_Ledger_cost_of ME_Ledger_price_at
  have ME_Ledger_cost_of : MeC l.prog w K mg base CX0 2 C_Ledger "cost_of" ps_Ledger_cost_of (sp_Ledger_cost_of K (⟨C_Unknown, C_TooMany, C_TooLate, C_Account, C_Ledger, (fun x => if x = "Unknown" then C_Unknown else if x = "TooMany" then C_TooMany else if x = "TooLate" then C_TooLate else if x = "Account" then C_Account else if x = "Ledger" then C_Ledger else 0)⟩ : Ad)) := ⟨f_Ledger_cost_of, _, ⟨fi_Ledger_cost_of, xf_Ledger_cost_of, k_Ledger_cost_of⟩, G_Ledger_cost_of, B_Ledger_cost_of⟩
  have G_Ledger_send : FnG l.prog w K mg base CX0 3 f_Ledger_send _ ps_Ledger_send (sp_Ledger_send K (⟨C_Unknown, C_TooMany, C_TooLate, C_Account, C_Ledger, (fun x => if x = "Unknown" then C_Unknown else if x = "TooMany" then C_TooMany else if x = "TooLate" then C_TooLate else if x = "Account" then C_Account else if x = "Ledger" then C_Ledger else 0)⟩ : Ad)) := ok_Ledger_send T F_Ledger_send MC_Account_0_
  have MK_Ledger_send_0_night_copies_seller : MeK l.prog w K mg base CX0 3 C_Ledger "send" ps_Ledger_send (sp_Ledger_send K (⟨C_Unknown, C_TooMany, C_TooLate, C_Account, C_Ledger, (fun x => if x = "Unknown" then C_Unknown else if x = "TooMany" then C_TooMany else if x = "TooLate" then C_TooLate else if x = "Account" then C_Account else if x = "Ledger" then C_Ledger else 0)⟩ : Ad)) 0 ["night", "copies", "seller"] (pickL [] [.a 0, .z 2, .z 0, .z 1]) := ⟨f_Ledger_send, _, ⟨fi_Ledger_send, xf_Ledger_send, k_Ledger_send⟩, G_Ledger_send, Fun.kbp F_Ledger_send 1 _ [.a 0, .z 2, .z 0, .z 1] fun _ _ _ _ _ _ us ws h1 h2 => match us, ws, h1, h2 with | [_], [_, _, _], _, _ => rfl⟩
  have G_Ledger_back : FnG l.prog w K mg base CX0 5 f_Ledger_back _ ps_Ledger_back (sp_Ledger_back K (⟨C_Unknown, C_TooMany, C_TooLate, C_Account, C_Ledger, (fun x => if x = "Unknown" then C_Unknown else if x = "TooMany" then C_TooMany else if x = "TooLate" then C_TooLate else if x = "Account" then C_Account else if x = "Ledger" then C_Ledger else 0)⟩ : Ad)) := ok_Ledger_back T F_Ledger_back ME_Ledger_account_of ME_Account_out_of
  have ME_Ledger_back : MeC l.prog w K mg base CX0 5 C_Ledger "back" ps_Ledger_back (sp_Ledger_back K (⟨C_Unknown, C_TooMany, C_TooLate, C_Account, C_Ledger, (fun x => if x = "Unknown" then C_Unknown else if x = "TooMany" then C_TooMany else if x = "TooLate" then C_TooLate else if x = "Account" then C_Account else if x = "Ledger" then C_Ledger else 0)⟩ : Ad)) := ⟨f_Ledger_back, _, ⟨fi_Ledger_back, xf_Ledger_back, k_Ledger_back⟩, G_Ledger_back, B_Ledger_back⟩
  have G_Ledger_pay : FnG l.prog w K mg base CX0 5 f_Ledger_pay _ ps_Ledger_pay (sp_Ledger_pay K (⟨C_Unknown, C_TooMany, C_TooLate, C_Account, C_Ledger, (fun x => if x = "Unknown" then C_Unknown else if x = "TooMany" then C_TooMany else if x = "TooLate" then C_TooLate else if x = "Account" then C_Account else if x = "Ledger" then C_Ledger else 0)⟩ : Ad)) := ok_Ledger_pay T F_Ledger_pay ME_Ledger_account_of
  have MK_Ledger_pay_0_pence_seller : MeK l.prog w K mg base CX0 5 C_Ledger "pay" ps_Ledger_pay (sp_Ledger_pay K (⟨C_Unknown, C_TooMany, C_TooLate, C_Account, C_Ledger, (fun x => if x = "Unknown" then C_Unknown else if x = "TooMany" then C_TooMany else if x = "TooLate" then C_TooLate else if x = "Account" then C_Account else if x = "Ledger" then C_Ledger else 0)⟩ : Ad)) 0 ["pence", "seller"] (pickL [] [.a 0, .z 1, .z 0]) := ⟨f_Ledger_pay, _, ⟨fi_Ledger_pay, xf_Ledger_pay, k_Ledger_pay⟩, G_Ledger_pay, Fun.kbp F_Ledger_pay 1 _ [.a 0, .z 1, .z 0] fun _ _ _ _ _ _ us ws h1 h2 => match us, ws, h1, h2 with | [_], [_, _], _, _ => rfl⟩
  have G_Ledger_price_from : FnG l.prog w K mg base CX0 1 f_Ledger_price_from _ ps_Ledger_price_from (sp_Ledger_price_from K (⟨C_Unknown, C_TooMany, C_TooLate, C_Account, C_Ledger, (fun x => if x = "Unknown" then C_Unknown else if x = "TooMany" then C_TooMany else if x = "TooLate" then C_TooLate else if x = "Account" then C_Account else if x = "Ledger" then C_Ledger else 0)⟩ : Ad)) := ok_Ledger_price_from T F_Ledger_price_from 
  have MK_Ledger_price_from_0_price_night : MeK l.prog w K mg base CX0 1 C_Ledger "price_from" ps_Ledger_price_from (sp_Ledger_price_from K (⟨C_Unknown, C_TooMany, C_TooLate, C_Account, C_Ledger, (fun x => if x = "Unknown" then C_Unknown else if x = "TooMany" then C_TooMany else if x = "TooLate" then C_TooLate else if x = "Account" then C_Account else if x = "Ledger" then C_Ledger else 0)⟩ : Ad)) 0 ["price", "night"] (pickL [] [.a 0, .z 1, .z 0]) := ⟨f_Ledger_price_from, _, ⟨fi_Ledger_price_from, xf_Ledger_price_from, k_Ledger_price_from⟩, G_Ledger_price_from, Fun.kbp F_Ledger_price_from 1 _ [.a 0, .z 1, .z 0] fun _ _ _ _ _ _ us ws h1 h2 => match us, ws, h1, h2 with | [_], [_, _], _, _ => rfl⟩
  have ME_Ledger_price_from : MeC l.prog w K mg base CX0 1 C_Ledger "price_from" ps_Ledger_price_from (sp_Ledger_price_from K (⟨C_Unknown, C_TooMany, C_TooLate, C_Account, C_Ledger, (fun x => if x = "Unknown" then C_Unknown else if x = "TooMany" then C_TooMany else if x = "TooLate" then C_TooLate else if x = "Account" then C_Account else if x = "Ledger" then C_Ledger else 0)⟩ : Ad)) := ⟨f_Ledger_price_from, _, ⟨fi_Ledger_price_from, xf_Ledger_price_from, k_Ledger_price_from⟩, G_Ledger_price_from, B_Ledger_price_from⟩
  have G_Ledger_account : FnG l.prog w K mg base CX0 5 f_Ledger_account _ ps_Ledger_account (sp_Ledger_account K (⟨C_Unknown, C_TooMany, C_TooLate, C_Account, C_Ledger, (fun x => if x = "Unknown" then C_Unknown else if x = "TooMany" then C_TooMany else if x = "TooLate" then C_TooLate else if x = "Account" then C_Account else if x = "Ledger" then C_Ledger else 0)⟩ : Ad)) := ok_Ledger_account T F_Ledger_account ME_Account_nights_told ME_Ledger_account_of ME_Ledger_cost_of
  have ME_Ledger_account : MeC l.prog w K mg base CX0 5 C_Ledger "account" ps_Ledger_account (sp_Ledger_account K (⟨C_Unknown, C_TooMany, C_TooLate, C_Account, C_Ledger, (fun x => if x = "Unknown" then C_Unknown else if x = "TooMany" then C_TooMany else if x = "TooLate" then C_TooLate else if x = "Account" then C_Account else if x = "Ledger" then C_Ledger else 0)⟩ : Ad)) := ⟨f_Ledger_account, _, ⟨fi_Ledger_account, xf_Ledger_account, k_Ledger_account⟩, G_Ledger_account, B_Ledger_account⟩
  have G_Ledger_owes : FnG l.prog w K mg base CX0 6 f_Ledger_owes _ ps_Ledger_owes (sp_Ledger_owes K (⟨C_Unknown, C_TooMany, C_TooLate, C_Account, C_Ledger, (fun x => if x = "Unknown" then C_Unknown else if x = "TooMany" then C_TooMany else if x = "TooLate" then C_TooLate else if x = "Account" then C_Account else if x = "Ledger" then C_Ledger else 0)⟩ : Ad)) := ok_Ledger_owes T F_Ledger_owes ME_Ledger_account ME_Ledger_account_of
  have ME_Ledger_owes : MeC l.prog w K mg base CX0 6 C_Ledger "owes" ps_Ledger_owes (sp_Ledger_owes K (⟨C_Unknown, C_TooMany, C_TooLate, C_Account, C_Ledger, (fun x => if x = "Unknown" then C_Unknown else if x = "TooMany" then C_TooMany else if x = "TooLate" then C_TooLate else if x = "Account" then C_Account else if x = "Ledger" then C_Ledger else 0)⟩ : Ad)) := ⟨f_Ledger_owes, _, ⟨fi_Ledger_owes, xf_Ledger_owes, k_Ledger_owes⟩, G_Ledger_owes, B_Ledger_owes⟩
  have O__law_held : OkG l.prog w K mg base CX0 1 "_law_held" ps__law_held (sp__law_held K (⟨C_Unknown, C_TooMany, C_TooLate, C_Account, C_Ledger, (fun x => if x = "Unknown" then C_Unknown else if x = "TooMany" then C_TooMany else if x = "TooLate" then C_TooLate else if x = "Account" then C_Account else if x = "Ledger" then C_Ledger else 0)⟩ : Ad)) f__law_held _ := ⟨ok__law_held T F__law_held , PySem.W.mg_of X G a__law_held, k__law_held⟩
  have O__law_take : OkG l.prog w K mg base CX0 3 "_law_take" ps__law_take (sp__law_take K (⟨C_Unknown, C_TooMany, C_TooLate, C_Account, C_Ledger, (fun x => if x = "Unknown" then C_Unknown else if x = "TooMany" then C_TooMany else if x = "TooLate" then C_TooLate else if x = "Account" then C_Account else if x = "Ledger" then C_Ledger else 0)⟩ : Ad)) f__law_take _ := ⟨ok__law_take T F__law_take (PySem.W.mg_of X G a__law_take) k__law_take B__law_take, PySem.W.mg_of X G a__law_take, k__law_take⟩
  have O__law_names : OkG l.prog w K mg base CX0 4 "_law_names" ps__law_names (sp__law_names K (⟨C_Unknown, C_TooMany, C_TooLate, C_Account, C_Ledger, (fun x => if x = "Unknown" then C_Unknown else if x = "TooMany" then C_TooMany else if x = "TooLate" then C_TooLate else if x = "Account" then C_Account else if x = "Ledger" then C_Ledger else 0)⟩ : Ad)) f__law_names _ := ⟨ok__law_names T F__law_names O__law_take B__law_take, PySem.W.mg_of X G a__law_names, k__law_names⟩
  have O__law_price : OkG l.prog w K mg base CX0 1 "_law_price" ps__law_price (sp__law_price K (⟨C_Unknown, C_TooMany, C_TooLate, C_Account, C_Ledger, (fun x => if x = "Unknown" then C_Unknown else if x = "TooMany" then C_TooMany else if x = "TooLate" then C_TooLate else if x = "Account" then C_Account else if x = "Ledger" then C_Ledger else 0)⟩ : Ad)) f__law_price _ := ⟨ok__law_price T F__law_price , PySem.W.mg_of X G a__law_price, k__law_price⟩
  have O__law_account : OkG l.prog w K mg base CX0 2 "_law_account" ps__law_account (sp__law_account K (⟨C_Unknown, C_TooMany, C_TooLate, C_Account, C_Ledger, (fun x => if x = "Unknown" then C_Unknown else if x = "TooMany" then C_TooMany else if x = "TooLate" then C_TooLate else if x = "Account" then C_Account else if x = "Ledger" then C_Ledger else 0)⟩ : Ad)) f__law_account _ := ⟨ok__law_account T F__law_account O__law_price B__law_price, PySem.W.mg_of X G a__law_account, k__law_account⟩
  have O__law_owes : OkG l.prog w K mg base CX0 3 "_law_owes" ps__law_owes (sp__law_owes K (⟨C_Unknown, C_TooMany, C_TooLate, C_Account, C_Ledger, (fun x => if x = "Unknown" then C_Unknown else if x = "TooMany" then C_TooMany else if x = "TooLate" then C_TooLate else if x = "Account" then C_Account else if x = "Ledger" then C_Ledger else 0)⟩ : Ad)) f__law_owes _ := ⟨ok__law_owes T F__law_owes O__law_account B__law_account, PySem.W.mg_of X G a__law_owes, k__law_owes⟩
  have O__law_sent : OkG l.prog w K mg base CX0 4 "_law_sent" ps__law_sent (sp__law_sent K (⟨C_Unknown, C_TooMany, C_TooLate, C_Account, C_Ledger, (fun x => if x = "Unknown" then C_Unknown else if x = "TooMany" then C_TooMany else if x = "TooLate" then C_TooLate else if x = "Account" then C_Account else if x = "Ledger" then C_Ledger else 0)⟩ : Ad)) f__law_sent _ := ⟨ok__law_sent T F__law_sent O__law_take B__law_take, PySem.W.mg_of X G a__law_sent, k__law_sent⟩
  have O__law_put : OkG l.prog w K mg base CX0 6 "_law_put" ps__law_put (sp__law_put K (⟨C_Unknown, C_TooMany, C_TooLate, C_Account, C_Ledger, (fun x => if x = "Unknown" then C_Unknown else if x = "TooMany" then C_TooMany else if x = "TooLate" then C_TooLate else if x = "Account" then C_Account else if x = "Ledger" then C_Ledger else 0)⟩ : Ad)) f__law_put _ := ⟨ok__law_put T F__law_put MK_Ledger_send_0_night_copies_seller ME_Ledger_back, PySem.W.mg_of X G a__law_put, k__law_put⟩
  have O__law_paid : OkG l.prog w K mg base CX0 6 "_law_paid" ps__law_paid (sp__law_paid K (⟨C_Unknown, C_TooMany, C_TooLate, C_Account, C_Ledger, (fun x => if x = "Unknown" then C_Unknown else if x = "TooMany" then C_TooMany else if x = "TooLate" then C_TooLate else if x = "Account" then C_Account else if x = "Ledger" then C_Ledger else 0)⟩ : Ad)) f__law_paid _ := ⟨ok__law_paid T F__law_paid MK_Ledger_pay_0_pence_seller, PySem.W.mg_of X G a__law_paid, k__law_paid⟩
  exact ok_law T F_law O__law_held B__law_held O__law_sent B__law_sent O__law_put B__law_put O__law_take B__law_take O__law_paid B__law_paid O__law_names B__law_names O__law_owes B__law_owes O__law_account B__law_account MC_Ledger_2_ MC_Ledger_0_price_free MK_Ledger_price_from_0_price_night ME_Ledger_account ME_Ledger_owes ME_Ledger_price_from
theorem walk {l : PySem.W.OpenLaw} {q : Program} {loose : List Str} {XP : (Str → Option Value) → Heap → Prop} {YP : World → Heap → Prop} {d : DefRec} {K : Params → PySem.W.Frag} (hn : l.most = some 63) (hdf : d.params.defaults = [])
    (hY : ∀ (w : World) (h : Heap), YP w h → (K w.params).In h)
    (F : ∀ (w : World) (mg : Str → Option Value) (fa : Addr) (h : Heap), (K w.params).In h → h.Ns mainGlobals mg → mg d.name = some (.ref fa) →
      ∃ (c : Ad) (fd : FuncData), (∀ (s : Shared) (u : Value), BindsTo s fd ⟨[u], []⟩ [("_law_script", u)]) ∧ ∀ base : Heap, (K w.params).In base → base.Ns mainGlobals mg → FnG l.prog w (K w.params) mg base CX0 7 fa fd ["_law_script"] (sp_law (K w.params) c)) :
    PySem.W.WalkO q loose XP YP l.row.toRowW d [] (fun f vs => PySem.call f vs) :=
  walk_ofG (n := 63) (k := 7) (x := "_law_script") (CX := fun _ => CX0) (sp := fun w => spLT (K w.params) []) hn (by decide) hdf ⟨rfl, by decide, by decide⟩ hY
    (fun w mg fa h a b c => by
      obtain ⟨ad, fd, h1, h2⟩ := F w mg fa h a b c
      exact ⟨fd, h1, h2⟩) (fun _ _ a ns hl _ hS => ⟨⟨a, ns, rfl, hS, hl, fun _ => rfl⟩, fun _ hp => nomatch hp⟩) fun _ _ _ _ _ z => z
end Nk64
open PySem PySem.W PyProof.Rows in
set_option maxRecDepth 100000 in
set_option maxHeartbeats 0 in
theorem PySem.Challenge.cw_nightpaper_k64_prices_and_free_copies_holds : PySem.Challenge.rw_nightpaper_k64_prices_and_free_copies.Holds := by
  w_on; o_law; k_head; (case hw => w_witness2)
  k_fill
  refine Nk64.walk (l := PySem.Challenge.rw_nightpaper_k64_prices_and_free_copies) rfl rfl (fun w h Y => PySem.W.kIn_of Y) ?F
  case F =>
    intro w mg fa h KX G hmg
    refine' Nk64.all_mk KX G hmg ?a__wall ?a_money_text ?a__law_held ?a__law_take ?a__law_names ?a__law_price ?a__law_account ?a__law_owes ?a__law_sent ?a__law_put ?a__law_paid ?a_law ?a_Unknown ?a_TooMany ?a_TooLate ?a_Account ?a_Ledger ?l__wall ?c__wall ?k__wall ?l_money_text ?c_money_text ?k_money_text ?l__law_held ?c__law_held ?k__law_held ?l__law_take ?c__law_take ?k__law_take ?l__law_names ?c__law_names ?k__law_names ?l__law_price ?c__law_price ?k__law_price ?l__law_account ?c__law_account ?k__law_account ?l__law_owes ?c__law_owes ?k__law_owes ?l__law_sent ?c__law_sent ?k__law_sent ?l__law_put ?c__law_put ?k__law_put ?l__law_paid ?c__law_paid ?k__law_paid ?l_law ?c_law ?k_law ?fi_AccountD_initD ?xf_AccountD_initD ?ft_AccountD_initD ?l_AccountD_initD ?c_AccountD_initD ?k_AccountD_initD ?fi_Account_out_of ?xf_Account_out_of ?ft_Account_out_of ?l_Account_out_of ?c_Account_out_of ?k_Account_out_of ?fi_Account_nights_told ?xf_Account_nights_told ?ft_Account_nights_told ?l_Account_nights_told ?c_Account_nights_told ?k_Account_nights_told ?fi_LedgerD_initD ?xf_LedgerD_initD ?ft_LedgerD_initD ?l_LedgerD_initD ?c_LedgerD_initD ?k_LedgerD_initD ?d1_LedgerD_initD ?d2_LedgerD_initD ?d3_LedgerD_initD ?d4_LedgerD_initD ?fi_Ledger_account_of ?xf_Ledger_account_of ?ft_Ledger_account_of ?l_Ledger_account_of ?c_Ledger_account_of ?k_Ledger_account_of ?fi_Ledger_price_at ?xf_Ledger_price_at ?ft_Ledger_price_at ?l_Ledger_price_at ?c_Ledger_price_at ?k_Ledger_price_at ?fi_Ledger_cost_of ?xf_Ledger_cost_of ?ft_Ledger_cost_of ?l_Ledger_cost_of ?c_Ledger_cost_of ?k_Ledger_cost_of ?fi_Ledger_send ?xf_Ledger_send ?ft_Ledger_send ?l_Ledger_send ?c_Ledger_send ?k_Ledger_send ?fi_Ledger_back ?xf_Ledger_back ?ft_Ledger_back ?l_Ledger_back ?c_Ledger_back ?k_Ledger_back ?fi_Ledger_pay ?xf_Ledger_pay ?ft_Ledger_pay ?l_Ledger_pay ?c_Ledger_pay ?k_Ledger_pay ?fi_Ledger_price_from ?xf_Ledger_price_from ?ft_Ledger_price_from ?l_Ledger_price_from ?c_Ledger_price_from ?k_Ledger_price_from ?fi_Ledger_account ?xf_Ledger_account ?ft_Ledger_account ?l_Ledger_account ?c_Ledger_account ?k_Ledger_account ?fi_Ledger_owes ?xf_Ledger_owes ?ft_Ledger_owes ?l_Ledger_owes ?c_Ledger_owes ?k_Ledger_owes ?z_KeyError ?z_OverflowError ?z_RuntimeError ?z_abs ?z_divmod ?z_isinstance ?z_len ?z_list ?z_max ?z_range ?z_repr ?z_sorted ?z_str ?z_sum ?cg_Account ?ch_Account ?cp_Account ?xs_Account ?xk_Account ?xm_Account ?no_Account_sent ?no_Account_came ?no_Account_paid ?cg_Ledger ?ch_Ledger ?cp_Ledger ?xs_Ledger ?xk_Ledger ?xm_Ledger ?no_Ledger_price ?no_Ledger_free ?no_Ledger_within ?no_Ledger_told_prices ?no_Ledger_accounts
    (case a__wall => k_is)
    (case a_money_text => k_is)
    (case a__law_held => k_is)
    (case a__law_take => k_is)
    (case a__law_names => k_is)
    (case a__law_price => k_is)
    (case a__law_account => k_is)
    (case a__law_owes => k_is)
    (case a__law_sent => k_is)
    (case a__law_put => k_is)
    (case a__law_paid => k_is)
    (case a_law => k_is)
    (case a_Unknown => k_is)
    (case a_TooMany => k_is)
    (case a_TooLate => k_is)
    (case a_Account => k_is)
    (case a_Ledger => k_is)
    (case l__wall => k_is)
    (case c__wall => k_is)
    (case k__wall => k_is)
    (case l_money_text => k_is)
    (case c_money_text => k_is)
    (case k_money_text => k_is)
    (case l__law_held => k_is)
    (case c__law_held => k_is)
    (case k__law_held => k_is)
    (case l__law_take => k_is)
    (case c__law_take => k_is)
    (case k__law_take => k_is)
    (case l__law_names => k_is)
    (case c__law_names => k_is)
    (case k__law_names => k_is)
    (case l__law_price => k_is)
    (case c__law_price => k_is)
    (case k__law_price => k_is)
    (case l__law_account => k_is)
    (case c__law_account => k_is)
    (case k__law_account => k_is)
    (case l__law_owes => k_is)
    (case c__law_owes => k_is)
    (case k__law_owes => k_is)
    (case l__law_sent => k_is)
    (case c__law_sent => k_is)
    (case k__law_sent => k_is)
    (case l__law_put => k_is)
    (case c__law_put => k_is)
    (case k__law_put => k_is)
    (case l__law_paid => k_is)
    (case c__law_paid => k_is)
    (case k__law_paid => k_is)
    (case l_law => k_is)
    (case c_law => k_is)
    (case k_law => k_is)
    (case fi_AccountD_initD => k_is)
    (case xf_AccountD_initD => k_is)
    (case ft_AccountD_initD => k_is)
    (case l_AccountD_initD => k_is)
    (case c_AccountD_initD => k_is)
    (case k_AccountD_initD => k_is)
    (case fi_Account_out_of => k_is)
    (case xf_Account_out_of => k_is)
    (case ft_Account_out_of => k_is)
    (case l_Account_out_of => k_is)
    (case c_Account_out_of => k_is)
    (case k_Account_out_of => k_is)
    (case fi_Account_nights_told => k_is)
    (case xf_Account_nights_told => k_is)
    (case ft_Account_nights_told => k_is)
    (case l_Account_nights_told => k_is)
    (case c_Account_nights_told => k_is)
    (case k_Account_nights_told => k_is)
    (case fi_LedgerD_initD => k_is)
    (case xf_LedgerD_initD => k_is)
    (case ft_LedgerD_initD => k_is)
    (case l_LedgerD_initD => k_is)
    (case c_LedgerD_initD => k_is)
    (case k_LedgerD_initD => k_is)
    (case d1_LedgerD_initD => rfl)
    (case d2_LedgerD_initD => k_is)
    (case d3_LedgerD_initD => rfl)
    (case d4_LedgerD_initD => exact .cons ⟨_, rfl⟩ (.cons ⟨_, rfl⟩ (.cons ⟨_, rfl⟩ (.nil))))
    (case fi_Ledger_account_of => k_is)
    (case xf_Ledger_account_of => k_is)
    (case ft_Ledger_account_of => k_is)
    (case l_Ledger_account_of => k_is)
    (case c_Ledger_account_of => k_is)
    (case k_Ledger_account_of => k_is)
    (case fi_Ledger_price_at => k_is)
    (case xf_Ledger_price_at => k_is)
    (case ft_Ledger_price_at => k_is)
    (case l_Ledger_price_at => k_is)
    (case c_Ledger_price_at => k_is)
    (case k_Ledger_price_at => k_is)
    (case fi_Ledger_cost_of => k_is)
    (case xf_Ledger_cost_of => k_is)
    (case ft_Ledger_cost_of => k_is)
    (case l_Ledger_cost_of => k_is)
    (case c_Ledger_cost_of => k_is)
    (case k_Ledger_cost_of => k_is)
    (case fi_Ledger_send => k_is)
    (case xf_Ledger_send => k_is)
    (case ft_Ledger_send => k_is)
    (case l_Ledger_send => k_is)
    (case c_Ledger_send => k_is)
    (case k_Ledger_send => k_is)
    (case fi_Ledger_back => k_is)
    (case xf_Ledger_back => k_is)
    (case ft_Ledger_back => k_is)
    (case l_Ledger_back => k_is)
    (case c_Ledger_back => k_is)
    (case k_Ledger_back => k_is)
    (case fi_Ledger_pay => k_is)
    (case xf_Ledger_pay => k_is)
    (case ft_Ledger_pay => k_is)
    (case l_Ledger_pay => k_is)
    (case c_Ledger_pay => k_is)
    (case k_Ledger_pay => k_is)
    (case fi_Ledger_price_from => k_is)
    (case xf_Ledger_price_from => k_is)
    (case ft_Ledger_price_from => k_is)
    (case l_Ledger_price_from => k_is)
    (case c_Ledger_price_from => k_is)
    (case k_Ledger_price_from => k_is)
    (case fi_Ledger_account => k_is)
    (case xf_Ledger_account => k_is)
    (case ft_Ledger_account => k_is)
    (case l_Ledger_account => k_is)
    (case c_Ledger_account => k_is)
    (case k_Ledger_account => k_is)
    (case fi_Ledger_owes => k_is)
    (case xf_Ledger_owes => k_is)
    (case ft_Ledger_owes => k_is)
    (case l_Ledger_owes => k_is)
    (case c_Ledger_owes => k_is)
    (case k_Ledger_owes => k_is)
    (case z_KeyError => k_is)
    (case z_OverflowError => k_is)
    (case z_RuntimeError => k_is)
    (case z_abs => k_is)
    (case z_divmod => k_is)
    (case z_isinstance => k_is)
    (case z_len => k_is)
    (case z_list => k_is)
    (case z_max => k_is)
    (case z_range => k_is)
    (case z_repr => k_is)
    (case z_sorted => k_is)
    (case z_str => k_is)
    (case z_sum => k_is)
    (case cg_Account => k_is)
    (case ch_Account => k_is)
    (case cp_Account => k_is)
    (case xs_Account => k_is)
    (case xk_Account => k_is)
    (case xm_Account => k_is)
    (case no_Account_sent => k_is)
    (case no_Account_came => k_is)
    (case no_Account_paid => k_is)
    (case cg_Ledger => k_is)
    (case ch_Ledger => k_is)
    (case cp_Ledger => k_is)
    (case xs_Ledger => k_is)
    (case xk_Ledger => k_is)
    (case xm_Ledger => k_is)
    (case no_Ledger_price => k_is)
    (case no_Ledger_free => k_is)
    (case no_Ledger_within => k_is)
    (case no_Ledger_told_prices => k_is)
    (case no_Ledger_accounts => k_is)
#print axioms PySem.Challenge.cw_nightpaper_k64_prices_and_free_copies_holds
