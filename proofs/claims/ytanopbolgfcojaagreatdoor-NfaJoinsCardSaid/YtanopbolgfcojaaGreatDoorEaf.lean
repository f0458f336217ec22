/- Steps of the seat's proofs: an evaluator of the program's code, its soundness, and what the functions come to. -/
import Derived.Test.YtanopbolgfcojaaGreatDoorEae
set_option linter.unusedSimpArgs false
set_option linter.unusedVariables false
namespace Go.Proofs.YtanopbolgfcojaaGreatDoor.E.SZ
open Go Go.Proofs E E.R
theorem or_j {a b:BitVec 64}:IntKind.u64.wrap ((BitVec.ofInt IntKind.u64.bits (a.toNat:Int) ||| BitVec.ofInt IntKind.u64.bits (b.toNat:Int)).toNat:Int)=((a ||| b).toNat:Int):=or_w a b
theorem not_e {a:BitVec 64}:IntKind.u64.wrap ((BitVec.ofInt IntKind.u64.bits IntKind.u64.max ^^^ BitVec.ofInt IntKind.u64.bits (a.toNat:Int)).toNat:Int)=((~~~a).toNat:Int):=by
 have e:∀ x:BitVec 64,BitVec.ofInt 64 18446744073709551615 ^^^ x = ~~~x:=fun x=>by
  have e1:BitVec.ofInt 64 18446744073709551615=BitVec.allOnes 64:=by rfl
  rw [e1,BitVec.allOnes_xor]
 have h2:(BitVec.ofInt IntKind.u64.bits IntKind.u64.max ^^^ BitVec.ofInt IntKind.u64.bits (a.toNat:Int)).toNat=(~~~a).toNat:=by
  rw [ofInt_w]
  exact congrArg BitVec.toNat (e a)
 have h:=(~~~a).isLt
 have h3:IntKind.u64.wrap ((~~~a).toNat:Int)=((~~~a).toNat:Int):=wrap_u64 (by omega) (by omega)
 exact (congrArg (fun n:Nat=>IntKind.u64.wrap (n:Int)) h2).trans h3
def W4.or (s t:W4):W4:=⟨s.a ||| t.a,s.b ||| t.b,s.c ||| t.c,s.d ||| t.d⟩
def W4.not (s:W4):W4:=⟨~~~s.a, ~~~s.b, ~~~s.c, ~~~s.d⟩
abbrev q0_join_ok (s:W4) (t:W4):List AV:=[AW (↑(s.a ||| t.a).toNat:Int),AW (↑(s.b ||| t.b).toNat:Int),AW (↑(s.c ||| t.c).toNat:Int),AW (↑(s.d ||| t.d).toNat:Int)]
abbrev q1_join_ok (t:W4):List AV:=[AW t.a.toNat,AW t.b.toNat,AW t.c.toNat,AW t.d.toNat]
theorem join_ok {m:Int} {fl:Nat} {hp:List Blk} {s t:W4}:evI (cfg m) fl 81 [.agg [wAV s.a,wAV s.b,wAV s.c,wAV s.d], .agg [wAV t.a,wAV t.b,wAV t.c,wAV t.d]] hp=some (.agg (W4.or s t).av,hp):=by
 exact evX (AV.agg (q0_join_ok s t)) (hp) [.l 2 (show LoopI (cfg m) (hp.length) 81 (bodyAt (cfg m) 81 2) 2 (St.mk ([J,J,TV.bx [AW s.a.toNat,AW s.b.toNat,AW s.c.toNat,AW s.d.toNat],TV.bx (q1_join_ok t),TV.bx [AW 0,AW 0,AW 0,AW 0],J,TV.v (AI 0)]++Jn 12) hp) (.exit 0) (St.mk ([J,J,TV.bx (q0_join_ok s t),J,TV.bx [AW 0,AW 0,AW 0,AW 0]]++Jn 14) hp) from (loopStepC (St.mk ([J,J,TV.bx [AW (↑(s.a ||| t.a).toNat:Int),AW s.b.toNat,AW s.c.toNat,AW s.d.toNat],TV.bx (q1_join_ok t),TV.bx [AW 0,AW 0,AW 0,AW 0],J,TV.v (AI 1)]++Jn 12) hp) [.w 4 6 IntKind.u64 ((↑(s.a ||| t.a).toNat:Int)) (or_j (a:=s.a) (b:=t.a))] (by kernel_rfl) (loopStepC (St.mk ([J,J,TV.bx [AW (↑(s.a ||| t.a).toNat:Int),AW (↑(s.b ||| t.b).toNat:Int),AW s.c.toNat,AW s.d.toNat],TV.bx (q1_join_ok t),TV.bx [AW 0,AW 0,AW 0,AW 0],J,TV.v (AI 2)]++Jn 12) hp) [.w 4 6 IntKind.u64 ((↑(s.b ||| t.b).toNat:Int)) (or_j (a:=s.b) (b:=t.b))] (by kernel_rfl) (loopStepC (St.mk ([J,J,TV.bx [AW (↑(s.a ||| t.a).toNat:Int),AW (↑(s.b ||| t.b).toNat:Int),AW (↑(s.c ||| t.c).toNat:Int),AW s.d.toNat],TV.bx (q1_join_ok t),TV.bx [AW 0,AW 0,AW 0,AW 0],J,TV.v (AI 3)]++Jn 12) hp) [.w 4 6 IntKind.u64 ((↑(s.c ||| t.c).toNat:Int)) (or_j (a:=s.c) (b:=t.c))] (by kernel_rfl) (loopStepC (St.mk ([J,J,TV.bx (q0_join_ok s t),TV.bx (q1_join_ok t),TV.bx [AW 0,AW 0,AW 0,AW 0],J,TV.v (AI 4)]++Jn 12) hp) [.w 4 6 IntKind.u64 ((↑(s.d ||| t.d).toNat:Int)) (or_j (a:=s.d) (b:=t.d))] (by kernel_rfl) (loopEndC (.exit 0) (St.mk ([J,J,TV.bx (q0_join_ok s t),J,TV.bx [AW 0,AW 0,AW 0,AW 0]]++Jn 14) hp) [] (by kernel_rfl) (fun h=>by cases h) rfl) rfl) rfl) rfl) rfl))] (by kernel_rfl) (tlP (by kernel_rfl) rfl (shutT (v:=AV.agg (q0_join_ok s t)) (v':=AV.agg (q0_join_ok s t)) (by kernel_rfl))) rfl
abbrev q0_not_ok (s:W4):List AV:=[AW (↑(~~~s.a).toNat:Int),AW (↑(~~~s.b).toNat:Int),AW (↑(~~~s.c).toNat:Int),AW (↑(~~~s.d).toNat:Int)]
theorem not_ok {m:Int} {fl:Nat} {hp:List Blk} {s:W4}:evI (cfg m) fl 64 [.agg [wAV s.a,wAV s.b,wAV s.c,wAV s.d]] hp=some (.agg (W4.not s).av,hp):=by
 exact evX (AV.agg (q0_not_ok s)) (hp) [.l 2 (show LoopI (cfg m) (hp.length) 64 (bodyAt (cfg m) 64 2) 2 (St.mk ([J,TV.bx [AW s.a.toNat,AW s.b.toNat,AW s.c.toNat,AW s.d.toNat],TV.bx [AW 0,AW 0,AW 0,AW 0],J,TV.v (AI 0)]++Jn 10) hp) (.exit 0) (St.mk ([J,TV.bx (q0_not_ok s),TV.bx [AW 0,AW 0,AW 0,AW 0]]++Jn 12) hp) from (loopStepC (St.mk ([J,TV.bx [AW (↑(~~~s.a).toNat:Int),AW s.b.toNat,AW s.c.toNat,AW s.d.toNat],TV.bx [AW 0,AW 0,AW 0,AW 0],J,TV.v (AI 1)]++Jn 10) hp) [.w 4 4 IntKind.u64 ((↑(~~~s.a).toNat:Int)) (not_e (a:=s.a))] (by kernel_rfl) (loopStepC (St.mk ([J,TV.bx [AW (↑(~~~s.a).toNat:Int),AW (↑(~~~s.b).toNat:Int),AW s.c.toNat,AW s.d.toNat],TV.bx [AW 0,AW 0,AW 0,AW 0],J,TV.v (AI 2)]++Jn 10) hp) [.w 4 4 IntKind.u64 ((↑(~~~s.b).toNat:Int)) (not_e (a:=s.b))] (by kernel_rfl) (loopStepC (St.mk ([J,TV.bx [AW (↑(~~~s.a).toNat:Int),AW (↑(~~~s.b).toNat:Int),AW (↑(~~~s.c).toNat:Int),AW s.d.toNat],TV.bx [AW 0,AW 0,AW 0,AW 0],J,TV.v (AI 3)]++Jn 10) hp) [.w 4 4 IntKind.u64 ((↑(~~~s.c).toNat:Int)) (not_e (a:=s.c))] (by kernel_rfl) (loopStepC (St.mk ([J,TV.bx (q0_not_ok s),TV.bx [AW 0,AW 0,AW 0,AW 0],J,TV.v (AI 4)]++Jn 10) hp) [.w 4 4 IntKind.u64 ((↑(~~~s.d).toNat:Int)) (not_e (a:=s.d))] (by kernel_rfl) (loopEndC (.exit 0) (St.mk ([J,TV.bx (q0_not_ok s),TV.bx [AW 0,AW 0,AW 0,AW 0]]++Jn 12) hp) [] (by kernel_rfl) (fun h=>by cases h) rfl) rfl) rfl) rfl) rfl))] (by kernel_rfl) (tlP (by kernel_rfl) rfl (shutT (v:=AV.agg (q0_not_ok s)) (v':=AV.agg (q0_not_ok s)) (by kernel_rfl))) rfl
theorem eat93 {m:Int} {fl rb p:Nat} {hp:List Blk} {s:List UInt8} {bad:Int} (hb:blkCells hp rb=some (rdB s p bad)) (hf:fl≤rb) (hl:s.length≤256):∃ hp',evI (cfg m) fl 42 [.ptr rb 0, .int .u8 93] hp=some (.bool (decide ((bad < 0∧p < s.length)∧gb s p=93)),hp')∧blkCells hp' rb=some (rdB s (eatP s p bad 93) bad)∧FrE [rb] hp hp':=eat_ok (c:=93) hb hf hl
theorem eat94 {m:Int} {fl rb p:Nat} {hp:List Blk} {s:List UInt8} {bad:Int} (hb:blkCells hp rb=some (rdB s p bad)) (hf:fl≤rb) (hl:s.length≤256):∃ hp',evI (cfg m) fl 42 [.ptr rb 0, .int .u8 94] hp=some (.bool (decide ((bad < 0∧p < s.length)∧gb s p=94)),hp')∧blkCells hp' rb=some (rdB s (eatP s p bad 94) bad)∧FrE [rb] hp hp':=eat_ok (c:=94) hb hf hl
theorem item_a {m:Int} {fl rb p:Nat} {hp:List Blk} {s:List UInt8} {bad:Int} {a:W4 × Bool × Nat} (hb:blkCells hp rb=some (rdB s p bad)) (ha:itemF s p bad=a) (hf:fl≤rb) (hl:s.length≤256):∃ hp',evI (cfg m) fl 80 [.ptr rb 0] hp=some (.tup [.agg a.1.av, .bool a.2.1],hp')∧blkCells hp' rb=some (rdB s a.2.2 bad)∧FrE [rb] hp hp':=ha ▸ item_ok rfl rfl hb hf hl
abbrev clSt (rb:Nat) (acc:W4) (n:Bool) (first:Bool):List TV:=[.v (.ptr rb 0),J, .bx acc.av,J, .v (.bool n), .v (.bool first)]++List.replicate 32 J
abbrev clEnd (acc:W4) (n:Bool):List TV:=[J,J, .bx acc.av,J, .v (.bool n)]++List.replicate 33 J
abbrev clRet (n:Bool):List TV:=[J,J, .bx [AW 0,AW 0,AW 0,AW 0], .v (.bool false), .v (.bool n)]++List.replicate 33 J
theorem cs1 {m:Int} {fl rb p:Nat} {hp:List Blk} {s:List UInt8} {bad:Int} {acc:W4} {n:Bool} {a:W4 × Bool × Nat} (hb:blkCells hp rb=some (rdB s p bad)) (ha:itemF s p bad=a) (hok:a.2.1=true) (hf:fl≤rb) (hl:s.length≤256):∃ hp',LoopS (cfg m) fl 72 (bodyAt (cfg m) 72 3) 3 ⟨clSt rb acc n true,hp⟩ ⟨clSt rb (W4.or acc a.1) n false,hp'⟩∧blkCells hp' rb=some (rdB s a.2.2 bad)∧FrE [rb] hp hp':=by
 obtain ⟨hp'1,e2,h3,h4⟩:=(item_a (m:=m) (bad:=bad) hb ha hf hl)
 exact ⟨hp'1,loopStepS (St.mk ([TV.v (AV.ptr rb 0),J,TV.bx [AW (↑(W4.or acc a.fst).a.toNat:Int),AW (↑(W4.or acc a.fst).b.toNat:Int),AW (↑(W4.or acc a.fst).c.toNat:Int),AW (↑(W4.or acc a.fst).d.toNat:Int)],J,TV.v (AV.bool n),TV.v (AV.bool false)]++Jn 32) hp'1) [.c 5 1 e2, .b 5 4 hok, .c 8 2 (join_ok (m:=m) (fl:=fl) (hp:=hp'1) (s:=acc) (t:=a.fst))] (by kernel_rfl) rfl,by assumption,by first | assumption | exact FrE.trans (by assumption) (by assumption)⟩
theorem cs2 {m:Int} {fl rb p:Nat} {hp:List Blk} {s:List UInt8} {bad:Int} {acc:W4} {n:Bool} {a:W4 × Bool × Nat} (hb:blkCells hp rb=some (rdB s p bad)) (hne:¬((bad < 0∧p < s.length)∧gb s p=93)) (ha:itemF s (eatP s p bad 93) bad=a) (hok:a.2.1=true) (hf:fl≤rb) (hl:s.length≤256):∃ hp',LoopS (cfg m) fl 72 (bodyAt (cfg m) 72 3) 3 ⟨clSt rb acc n false,hp⟩ ⟨clSt rb (W4.or acc a.1) n false,hp'⟩∧blkCells hp' rb=some (rdB s a.2.2 bad)∧FrE [rb] hp hp':=by
 obtain ⟨hp'1,e2,h3,h4⟩:=(eat93 (m:=m) (bad:=bad) hb hf hl)
 obtain ⟨hp'5,e6,h7,h8⟩:=(item_a (m:=m) (bad:=bad) h3 ha hf hl)
 exact ⟨hp'5,loopStepS (St.mk ([TV.v (AV.ptr rb 0),J,TV.bx [AW (↑(W4.or acc a.fst).a.toNat:Int),AW (↑(W4.or acc a.fst).b.toNat:Int),AW (↑(W4.or acc a.fst).c.toNat:Int),AW (↑(W4.or acc a.fst).d.toNat:Int)],J,TV.v (AV.bool n),TV.v (AV.bool false)]++Jn 32) hp'5) [.cb 3 5 e2 (decide_eq_false (hne)), .c 5 1 e6, .b 5 4 hok, .c 8 2 (join_ok (m:=m) (fl:=fl) (hp:=hp'5) (s:=acc) (t:=a.fst))] (by kernel_rfl) rfl,by assumption,by first | assumption | exact FrE.trans (by assumption) (by assumption)⟩
theorem cf1 {m:Int} {fl rb p:Nat} {hp:List Blk} {s:List UInt8} {bad:Int} {acc:W4} {n:Bool} {a:W4 × Bool × Nat} (hb:blkCells hp rb=some (rdB s p bad)) (ha:itemF s p bad=a) (hok:a.2.1=false) (hf:fl≤rb) (hl:s.length≤256):∃ hp',LoopI (cfg m) fl 72 (bodyAt (cfg m) 72 3) 3 ⟨clSt rb acc n true,hp⟩ .ret ⟨clRet n,hp'⟩∧blkCells hp' rb=some (rdB s a.2.2 bad)∧FrE [rb] hp hp':=by
 obtain ⟨hp'1,e2,h3,h4⟩:=(item_a (m:=m) (bad:=bad) hb ha hf hl)
 exact ⟨hp'1,loopEndC .ret (St.mk ([J,J,TV.bx [AW 0,AW 0,AW 0,AW 0],TV.v (AV.bool false),TV.v (AV.bool n)]++Jn 33) hp'1) [.c 5 1 e2, .b 5 4 hok] (by kernel_rfl) (fun h=>by cases h) rfl,by assumption,by first | assumption | exact FrE.trans (by assumption) (by assumption)⟩
theorem cf2 {m:Int} {fl rb p:Nat} {hp:List Blk} {s:List UInt8} {bad:Int} {acc:W4} {n:Bool} {a:W4 × Bool × Nat} (hb:blkCells hp rb=some (rdB s p bad)) (hne:¬((bad < 0∧p < s.length)∧gb s p=93)) (ha:itemF s (eatP s p bad 93) bad=a) (hok:a.2.1=false) (hf:fl≤rb) (hl:s.length≤256):∃ hp',LoopI (cfg m) fl 72 (bodyAt (cfg m) 72 3) 3 ⟨clSt rb acc n false,hp⟩ .ret ⟨clRet n,hp'⟩∧blkCells hp' rb=some (rdB s a.2.2 bad)∧FrE [rb] hp hp':=by
 obtain ⟨hp'1,e2,h3,h4⟩:=(eat93 (m:=m) (bad:=bad) hb hf hl)
 obtain ⟨hp'5,e6,h7,h8⟩:=(item_a (m:=m) (bad:=bad) h3 ha hf hl)
 exact ⟨hp'5,loopEndC .ret (St.mk ([J,J,TV.bx [AW 0,AW 0,AW 0,AW 0],TV.v (AV.bool false),TV.v (AV.bool n)]++Jn 33) hp'5) [.cb 3 5 e2 (decide_eq_false (hne)), .c 5 1 e6, .b 5 4 hok] (by kernel_rfl) (fun h=>by cases h) rfl,by assumption,by first | assumption | exact FrE.trans (by assumption) (by assumption)⟩
theorem ce {m:Int} {fl rb p:Nat} {hp:List Blk} {s:List UInt8} {bad:Int} {acc:W4} {n:Bool} (hb:blkCells hp rb=some (rdB s p bad)) (he:(bad < 0∧p < s.length)∧gb s p=93) (hf:fl≤rb) (hl:s.length≤256):∃ hp',LoopI (cfg m) fl 72 (bodyAt (cfg m) 72 3) 3 ⟨clSt rb acc n false,hp⟩ (.exit 0) ⟨clEnd acc n,hp'⟩∧blkCells hp' rb=some (rdB s (eatP s p bad 93) bad)∧FrE [rb] hp hp':=by
 obtain ⟨hp'1,e2,h3,h4⟩:=(eat93 (m:=m) (bad:=bad) hb hf hl)
 exact ⟨hp'1,loopEndC (.exit 0) (St.mk ([J,J,TV.bx [AW acc.a.toNat,AW acc.b.toNat,AW acc.c.toNat,AW acc.d.toNat],J,TV.v (AV.bool n)]++Jn 33) hp'1) [.cb 3 5 e2 (decide_eq_true (he))] (by kernel_rfl) (fun h=>by cases h) rfl,by assumption,by first | assumption | exact FrE.trans (by assumption) (by assumption)⟩
def clsF (s:List UInt8) (bad:Int):Nat→Nat→W4→Bool→Option W4 × Nat
 | 0,p,_,_=>(none,p)
 | f + 1,p,acc,first =>
  if first=false∧((bad < 0∧p < s.length)∧gb s p=93) then (some acc,eatP s p bad 93)
  else if (itemF s (if first=true then p else eatP s p bad 93) bad).2.1=false then (none,(itemF s (if first=true then p else eatP s p bad 93) bad).2.2)
  else clsF s bad f (itemF s (if first=true then p else eatP s p bad 93) bad).2.2 (W4.or acc (itemF s (if first=true then p else eatP s p bad 93) bad).1) false
theorem escF_bd {s:List UInt8} {p:Nat} {bad:Int} (h:(escF s p bad).2.1=true):p + 1≤(escF s p bad).2.2∧p < s.length:=by
 unfold escF at *
 split at h
 ·rename_i h1;rw [if_pos h1];exact ⟨Nat.le_refl _,h1.2⟩
 ·cases h
theorem eatP_ge {s:List UInt8} {p:Nat} {bad:Int} {c:UInt8}:p≤eatP s p bad c:=by unfold eatP;split <;> omega
theorem memF_bd {s:List UInt8} {p:Nat} {bad:Int} (h:(memF s p bad).2.1=true):p + 1≤(memF s p bad).2.2∧p < s.length:=by
 have h0:=eatP_ge (s:=s) (p:=p) (bad:=bad) (c:=92)
 unfold memF at *
 split at h
 ·rename_i h1
  rw [if_pos h1]
  have:=escF_bd h
  exact ⟨by omega,h1.1.2⟩
 ·rename_i h1
  rw [if_neg h1]
  split at h
  ·cases h
  ·rename_i h2
   split at h
   ·cases h
   ·rename_i h3
    rw [if_neg h2,if_neg h3]
    have h4:bad < 0∧eatP s p bad 92 < s.length:=by simpa using h2
    exact ⟨by dsimp only;omega,by omega⟩
theorem itemF_bd {s:List UInt8} {p:Nat} {bad:Int} (h:(itemF s p bad).2.1=true):p + 1≤(itemF s p bad).2.2∧p < s.length:=by
 unfold itemF itemG at *
 split at h
 ·cases h
 ·rename_i h1
  have hm:(memF s p bad).2.1=true:=by simpa using h1
  have h2:=memF_bd hm
  rw [if_neg h1]
  have h0:=eatP_ge (s:=s) (p:=(memF s p bad).2.2) (bad:=bad) (c:=45)
  split at h
  ·rename_i h3
   rw [if_pos h3];exact ⟨by dsimp only;omega,h2.2⟩
  ·rename_i h3
   rw [if_neg h3]
   split at h
   ·cases h
   ·rename_i h4
    rw [if_neg h4]
    have hm2:(memF s (eatP s (memF s p bad).2.2 bad 45) bad).2.1=true:=by simpa using fun e=>h4 (.inl e)
    have h5:=memF_bd hm2
    exact ⟨by dsimp only;omega,h2.2⟩
theorem cl_loop {m:Int} {fl rb:Nat} {s:List UInt8} {bad:Int} {n:Bool} (hf:fl≤rb) (hl:s.length≤256):∀ (f p:Nat) (acc:W4) (first:Bool) {hp:List Blk},s.length + 1≤f + p→0 < f→blkCells hp rb=some (rdB s p bad) →
  (∀ r,(clsF s bad f p acc first).1=some r→∃ hp',LoopI (cfg m) fl 72 (bodyAt (cfg m) 72 3) 3 ⟨clSt rb acc n first,hp⟩ (.exit 0) ⟨clEnd r n,hp'⟩∧blkCells hp' rb=some (rdB s (clsF s bad f p acc first).2 bad)∧FrE [rb] hp hp') ∧
  ((clsF s bad f p acc first).1=none→∃ hp',LoopI (cfg m) fl 72 (bodyAt (cfg m) 72 3) 3 ⟨clSt rb acc n first,hp⟩ .ret ⟨clRet n,hp'⟩∧blkCells hp' rb=some (rdB s (clsF s bad f p acc first).2 bad)∧FrE [rb] hp hp')
 | 0,p,acc,first,hp,h1,h0,hb=>by omega
 | f + 1,p,acc,first,hp,h1,h0,hb=>by
  rw [clsF]
  by_cases he:first=false∧((bad < 0∧p < s.length)∧gb s p=93)
  ·rw [if_pos he]
   obtain ⟨e1,e2⟩:=he
   subst e1
   refine ⟨fun r hr => ?_,fun hr=>by cases hr⟩
   cases hr
   exact ce hb e2 hf hl
  ·rw [if_neg he]
   have hge:=eatP_ge (s:=s) (p:=p) (bad:=bad) (c:=93)
   rcases bcases (itemF s (if first=true then p else eatP s p bad 93) bad).2.1 with ok | ok
   ·rw [if_neg (by simp [ok])]
    have hbd:=itemF_bd ok
    have hq:p≤(if first=true then p else eatP s p bad 93):=by split <;> omega
    have hstep:∃ hp',LoopS (cfg m) fl 72 (bodyAt (cfg m) 72 3) 3 ⟨clSt rb acc n first,hp⟩ ⟨clSt rb (W4.or acc (itemF s (if first=true then p else eatP s p bad 93) bad).1) n false,hp'⟩∧blkCells hp' rb=some (rdB s (itemF s (if first=true then p else eatP s p bad 93) bad).2.2 bad)∧FrE [rb] hp hp':=by
     cases first with
     | true=>exact cs1 hb rfl ok hf hl
     | false=>exact cs2 hb (fun e=>he ⟨rfl,e⟩) rfl ok hf hl
    obtain ⟨hp1,s1,s2,s3⟩:=hstep
    obtain ⟨i1,i2⟩:=cl_loop (m:=m) (n:=n) hf hl f _ (W4.or acc (itemF s (if first=true then p else eatP s p bad 93) bad).1) false (by omega) (by omega) s2
    refine ⟨fun r hr => ?_,fun hr => ?_⟩
    ·obtain ⟨hp2,r1,r2,r3⟩:=i1 r hr
     exact ⟨hp2,s1 _ _ r1,r2,s3.trans r3⟩
    ·obtain ⟨hp2,r1,r2,r3⟩:=i2 hr
     exact ⟨hp2,s1 _ _ r1,r2,s3.trans r3⟩
   ·rw [if_pos ok]
    refine ⟨fun r hr=>(by cases hr),fun _ => ?_⟩
    cases first with
    | true=>exact cf1 hb rfl ok hf hl
    | false=>exact cf2 hb (fun e=>he ⟨rfl,e⟩) rfl ok hf hl
abbrev clSt0 (rb:Nat) (n:Bool):List TV:=[.v (.ptr rb 0),J, .bx [AW 0,AW 0,AW 0,AW 0],J, .v (.bool n), .v (.bool true)]++List.replicate 32 J
theorem cl_some {m:Int} {fl rb p q:Nat} {hp:List Blk} {s:List UInt8} {bad:Int} {n:Bool} {r:W4} (hb:blkCells hp rb=some (rdB s p bad)) (hr:clsF s bad (s.length + 1) p W4.zero true=(some r,q)) (hf:fl≤rb) (hl:s.length≤256):∃ hp',LoopI (cfg m) fl 72 (bodyAt (cfg m) 72 3) 3 ⟨clSt0 rb n,hp⟩ (.exit 0) ⟨clEnd r n,hp'⟩∧blkCells hp' rb=some (rdB s q bad)∧FrE [rb] hp hp':=by
 have h:=(cl_loop (m:=m) (n:=n) hf hl (s.length + 1) p W4.zero true (by omega) (by omega) hb).1 r (by rw [hr])
 rw [hr] at h;exact h
theorem cl_none {m:Int} {fl rb p q:Nat} {hp:List Blk} {s:List UInt8} {bad:Int} {n:Bool} (hb:blkCells hp rb=some (rdB s p bad)) (hr:clsF s bad (s.length + 1) p W4.zero true=(none,q)) (hf:fl≤rb) (hl:s.length≤256):∃ hp',LoopI (cfg m) fl 72 (bodyAt (cfg m) 72 3) 3 ⟨clSt0 rb n,hp⟩ .ret ⟨clRet n,hp'⟩∧blkCells hp' rb=some (rdB s q bad)∧FrE [rb] hp hp':=by
 have h:=(cl_loop (m:=m) (n:=n) hf hl (s.length + 1) p W4.zero true (by omega) (by omega) hb).2 (by rw [hr])
 rw [hr] at h;exact h
theorem class_n {m:Int} {fl rb p q:Nat} {hp:List Blk} {s:List UInt8} {bad:Int} (hb:blkCells hp rb=some (rdB s p bad)) (hr:clsF s bad (s.length + 1) (eatP s p bad 94) W4.zero true=(none,q)) (hf:fl≤rb) (hl:s.length≤256):∃ hp',evI (cfg m) fl 72 [.ptr rb 0] hp=some (.tup [.agg W4.zero.av, .bool false],hp')∧blkCells hp' rb=some (rdB s q bad)∧FrE [rb] hp hp':=by
 obtain ⟨hp'1,e2,h3,h4⟩:=(eat94 (m:=m) (bad:=bad) hb hf hl)
 by_cases h5:(bad < 0∧p < s.length)∧gb s p=94
 ·obtain ⟨hp'6,e7,h8,h9⟩:=(cl_none (m:=m) (bad:=bad) (n:=true) h3 hr hf hl)
  exact ⟨hp'6,evX (AV.tup [AV.agg [AW 0,AW 0,AW 0,AW 0],AV.bool false]) (hp'6) [.cb 1 3 e2 (decide_eq_true h5), .l 3 e7] (by kernel_rfl) (tlK (by kernel_rfl) rfl) rfl,by assumption,by first | assumption | exact FrE.trans (by assumption) (by assumption)⟩
 ·obtain ⟨hp'6,e7,h8,h9⟩:=(cl_none (m:=m) (bad:=bad) (n:=false) h3 hr hf hl)
  exact ⟨hp'6,evX (AV.tup [AV.agg [AW 0,AW 0,AW 0,AW 0],AV.bool false]) (hp'6) [.cb 1 3 e2 (decide_eq_false h5), .l 3 e7] (by kernel_rfl) (tlK (by kernel_rfl) rfl) rfl,by assumption,by first | assumption | exact FrE.trans (by assumption) (by assumption)⟩
theorem class_h {m:Int} {fl rb p q:Nat} {hp:List Blk} {s:List UInt8} {bad:Int} {r:W4} (hb:blkCells hp rb=some (rdB s p bad)) (hh:(bad < 0∧p < s.length)∧gb s p=94) (hr:clsF s bad (s.length + 1) (eatP s p bad 94) W4.zero true=(some r,q)) (hf:fl≤rb) (hl:s.length≤256):∃ hp',evI (cfg m) fl 72 [.ptr rb 0] hp=some (.tup [.agg (W4.not r).av, .bool (!decide (W4.not r=W4.zero))],hp')∧blkCells hp' rb=some (rdB s q bad)∧FrE [rb] hp hp':=by
 obtain ⟨hp'1,e2,h3,h4⟩:=(eat94 (m:=m) (bad:=bad) hb hf hl)
 obtain ⟨hp'5,e6,h7,h8⟩:=(cl_some (m:=m) (bad:=bad) (n:=true) h3 hr hf hl)
 rcases (Classical.em (W4.not r=W4.zero)).symm with h9 | h9
 ·exact ⟨hp'5,evX (AV.tup [AV.agg [AW (↑(W4.not r).a.toNat:Int),AW (↑(W4.not r).b.toNat:Int),AW (↑(W4.not r).c.toNat:Int),AW (↑(W4.not r).d.toNat:Int)],AV.bool true]) (hp'5) [.cb 1 3 e2 (decide_eq_true (hh)), .l 3 e6, .c 10 1 (not_ok (m:=m) (fl:=fl) (hp:=hp'5) (s:=r)), .vb 11 3 (neW4z (C:=cfg m) (t:=40) (cst:=false) (s:=W4.not r) (by kernel_rfl)) (congrArg not (decide_eq_false h9))] (by kernel_rfl) (tlK (by kernel_rfl) rfl) (by simp [*]),by assumption,by first | assumption | exact FrE.trans (by assumption) (by assumption)⟩
 ·exact ⟨hp'5,evX (AV.tup [AV.agg [AW (↑(W4.not r).a.toNat:Int),AW (↑(W4.not r).b.toNat:Int),AW (↑(W4.not r).c.toNat:Int),AW (↑(W4.not r).d.toNat:Int)],AV.bool false]) (hp'5) [.cb 1 3 e2 (decide_eq_true (hh)), .l 3 e6, .c 10 1 (not_ok (m:=m) (fl:=fl) (hp:=hp'5) (s:=r)), .vb 11 3 (neW4z (C:=cfg m) (t:=40) (cst:=false) (s:=W4.not r) (by kernel_rfl)) (congrArg not (decide_eq_true h9))] (by kernel_rfl) (tlK (by kernel_rfl) rfl) (by simp [*]),by assumption,by first | assumption | exact FrE.trans (by assumption) (by assumption)⟩
theorem class_s {m:Int} {fl rb p q:Nat} {hp:List Blk} {s:List UInt8} {bad:Int} {r:W4} (hb:blkCells hp rb=some (rdB s p bad)) (hh:¬((bad < 0∧p < s.length)∧gb s p=94)) (hr:clsF s bad (s.length + 1) (eatP s p bad 94) W4.zero true=(some r,q)) (hf:fl≤rb) (hl:s.length≤256):∃ hp',evI (cfg m) fl 72 [.ptr rb 0] hp=some (.tup [.agg r.av, .bool (!decide (r=W4.zero))],hp')∧blkCells hp' rb=some (rdB s q bad)∧FrE [rb] hp hp':=by
 obtain ⟨hp'1,e2,h3,h4⟩:=(eat94 (m:=m) (bad:=bad) hb hf hl)
 obtain ⟨hp'5,e6,h7,h8⟩:=(cl_some (m:=m) (bad:=bad) (n:=false) h3 hr hf hl)
 rcases (Classical.em (r=W4.zero)).symm with h9 | h9
 ·exact ⟨hp'5,evX (AV.tup [AV.agg [AW r.a.toNat,AW r.b.toNat,AW r.c.toNat,AW r.d.toNat],AV.bool true]) (hp'5) [.cb 1 3 e2 (decide_eq_false (hh)), .l 3 e6, .vb 11 3 (neW4z (C:=cfg m) (t:=40) (cst:=false) (s:=r) (by kernel_rfl)) (congrArg not (decide_eq_false h9))] (by kernel_rfl) (tlK (by kernel_rfl) rfl) (by simp [*]),by assumption,by first | assumption | exact FrE.trans (by assumption) (by assumption)⟩
 ·exact ⟨hp'5,evX (AV.tup [AV.agg [AW r.a.toNat,AW r.b.toNat,AW r.c.toNat,AW r.d.toNat],AV.bool false]) (hp'5) [.cb 1 3 e2 (decide_eq_false (hh)), .l 3 e6, .vb 11 3 (neW4z (C:=cfg m) (t:=40) (cst:=false) (s:=r) (by kernel_rfl)) (congrArg not (decide_eq_true h9))] (by kernel_rfl) (tlK (by kernel_rfl) rfl) (by simp [*]),by assumption,by first | assumption | exact FrE.trans (by assumption) (by assumption)⟩
def classF (s:List UInt8) (p:Nat) (bad:Int):W4 × Bool × Nat :=
 match clsF s bad (s.length + 1) (eatP s p bad 94) W4.zero true with
 | (none,q)=>(W4.zero,false,q)
 | (some r,q)=>if (bad < 0∧p < s.length)∧gb s p=94 then (W4.not r, !decide (W4.not r=W4.zero),q) else (r, !decide (r=W4.zero),q)
theorem class_ok {m:Int} {fl rb p:Nat} {hp:List Blk} {s:List UInt8} {bad:Int} (hb:blkCells hp rb=some (rdB s p bad)) (hf:fl≤rb) (hl:s.length≤256):∃ hp',evI (cfg m) fl 72 [.ptr rb 0] hp=some (.tup [.agg (classF s p bad).1.av, .bool (classF s p bad).2.1],hp')∧blkCells hp' rb=some (rdB s (classF s p bad).2.2 bad)∧FrE [rb] hp hp':=by
 unfold classF
 split
 ·rename_i q hr;exact class_n hb hr hf hl
 ·rename_i r q hr
  by_cases hh:(bad < 0∧p < s.length)∧gb s p=94
  ·simp only [if_pos hh];exact class_h hb hh hr hf hl
  ·simp only [if_neg hh];exact class_s hb hh hr hf hl
abbrev flSt (kd:Int) (o lx:AV) (n i:Nat):List TV:=[.v (AI kd),J,J,J,J, .v o,J,J, .v lx, .v (AI n), .v (AI i)]++List.replicate 17 J
abbrev flEnd (o:AV):List TV:=[J,J,J,J,J, .v o]++List.replicate 22 J
theorem app_node {C:Cfg} {fl n:Nat} {hp:List Blk} {x y:AV} {vs ws:List AV} {t:TypeId} (h:RowN n 8 hp x vs) (hy:elems hp 8 y=some ws) (ha:AggN 8 ws) (ht:elT C t 8 80=true) (hl:(vs.length + ws.length) * 80≤35184372088832) (hf:fl≤n) (hn:n≤hp.length) :
  ∃ x' hp' fp,(∀ ts,builtinE C fl true ⟨ts,hp⟩ .append [t,t] [x,y]=some ⟨.v x',ts,hp',fp⟩)∧RowN n 8 hp' x' (vs++ws)∧PreN n hp hp':=append_row h hy ha ht (by decide) hl hf hn
theorem fl_k {m:Int} {fl n0 i nv:Nat} {hp:List Blk} {kd:Int} {o lx ks:AV} {vs ws kvs:List AV} {n:Node} (hx:IsSl 8 lx vs) (hv:vs[i]?=some (nAV n ks)) (hi:i < nv) (hnv:nv < 100000) (hk:n.kind=kd) (hkx:IsSl 8 ks kvs) (ha:AggN 8 kvs) (hr:RowN n0 8 hp o ws) (hb:ws.length + kvs.length < 100000) (hb2:(ws.length + kvs.length) * 80≤35184372088832) (hf:fl≤n0) (hn:n0≤hp.length):∃ hp' o',LoopS (cfg m) fl 45 (bodyAt (cfg m) 45 3) 3 ⟨flSt kd o lx nv i,hp⟩ ⟨flSt kd o' lx nv (i + 1),hp'⟩∧RowN n0 8 hp' o' (ws++kvs)∧PreN n0 hp hp':=by
 obtain ⟨x'1,hp'2,fp3,e4,h5,h6⟩:=(app_node (C:=cfg m) (y:=ks) (t:=41) hr (elems_sl (hp:=hp) hkx) ha (by kernel_rfl) hb2 hf hn)
 exact ⟨hp'2,_,loopStepS (St.mk [TV.v (AI kd),J,J,J,J,TV.v x'1,J,J,TV.v lx,TV.v (AI nv),TV.v (AI ((↑i:Int) + 1)),J,J,J,J,J,J,J,J,J,J,J,J,J,J,J,J,J] hp'2) [.b 3 0 (decide_eq_true ((show (↑i:Int) < (↑nv:Int) from (by omega)))), .a 4 0 (indexAddr_sl (C:=cfg m) (t:=41) (n:=(↑i:Int)) hx (by kernel_rfl) (by omega) hv), .b 5 3 (beq_iff_eq.2 (hk)), .m 6 3 e4, .w 8 0 IntKind.i64 ((↑i:Int) + 1) (wrap_i64' (by omega))] (by kernel_rfl) rfl,by assumption,by assumption⟩
theorem fl_n {m:Int} {fl n0 i nv:Nat} {hp:List Blk} {kd:Int} {o lx ks:AV} {vs ws:List AV} {n:Node} (hx:IsSl 8 lx vs) (hv:vs[i]?=some (nAV n ks)) (hi:i < nv) (hnv:nv < 100000) (hk:¬ n.kind=kd) (hr:RowN n0 8 hp o ws) (hb2:(ws.length + [nAV n ks].length) * 80≤35184372088832) (hf:fl≤n0) (hn:n0≤hp.length):∃ hp' o',LoopS (cfg m) fl 45 (bodyAt (cfg m) 45 3) 3 ⟨flSt kd o lx nv i,hp⟩ ⟨flSt kd o' lx nv (i + 1),hp'⟩∧RowN n0 8 hp' o' (ws++[nAV n ks])∧PreN n0 hp hp':=by
 obtain ⟨x'1,hp'2,fp3,e4,h5,h6⟩:=(app_node (C:=cfg m) (y:=AV.lit 8 Own.exact [AV.agg [AI n.kind,AW n.set.a.toNat,AW n.set.b.toNat,AW n.set.c.toNat,AW n.set.d.toNat,AI n.mn,AI n.mx,ks]]) (t:=41) hr (by kernel_rfl) (agg_one (n:=n) (ks:=ks)) (by kernel_rfl) hb2 hf hn)
 exact ⟨hp'2,_,loopStepS (St.mk [TV.v (AI kd),J,J,J,J,TV.v x'1,J,J,TV.v lx,TV.v (AI nv),TV.v (AI ((↑i:Int) + 1)),J,J,J,J,J,J,J,J,J,J,J,J,J,J,J,J,J] hp'2) [.b 3 0 (decide_eq_true ((show (↑i:Int) < (↑nv:Int) from (by omega)))), .a 4 0 (indexAddr_sl (C:=cfg m) (t:=41) (n:=(↑i:Int)) hx (by kernel_rfl) (by omega) hv), .b 5 3 (beq_false_of_ne (hk)), .m 7 3 e4, .w 8 0 IntKind.i64 ((↑i:Int) + 1) (wrap_i64' (by omega))] (by kernel_rfl) rfl,by assumption,by assumption⟩
theorem fl_x {m:Int} {fl i nv:Nat} {hp:List Blk} {kd:Int} {o lx:AV} (hi:nv≤i):LoopI (cfg m) fl 45 (bodyAt (cfg m) 45 3) 3 ⟨flSt kd o lx nv i,hp⟩ (.exit 0) ⟨flEnd o,hp⟩:=by
 exact loopEndC (.exit 0) (St.mk ([J,J,J,J,J,TV.v o]++Jn 22) hp) [.b 3 0 (decide_eq_false ((show ¬(↑i:Int) < (↑nv:Int) from (by omega))))] (by kernel_rfl) (fun h=>by cases h) rfl
def flatF (kd:Int):List Node→List Node
 | []=>[]
 | n::l=>(if n.kind=kd then n.kids else [n])++flatF kd l
theorem fl_loop {m:Int} {fl n0 nv:Nat} {kd:Int} {lx:AV} {vs:List AV} {l:List Node} (hx:IsSl 8 lx vs) (hR:NodesR l vs) (hnv:nv=vs.length) (hnv2:nv < 100000) (hf:fl≤n0):∀ (r:List Node) (i:Nat) {hp:List Blk} {o:AV} {ws:List AV},l.drop i=r→RowN n0 8 hp o ws→ws.length + (flatF kd r).length < 100000→n0≤hp.length →
  ∃ hp' o' us,LoopI (cfg m) fl 45 (bodyAt (cfg m) 45 3) 3 ⟨flSt kd o lx nv i,hp⟩ (.exit 0) ⟨flEnd o',hp'⟩∧RowN n0 8 hp' o' (ws++us)∧NodesR (flatF kd r) us∧PreN n0 hp hp'
 | [],i,hp,o,ws,hd,hr,hb,hn=>by
  have:l.length≤i:=by simpa using hd
  exact ⟨hp,o,[],fl_x (by rw [hnv,hR.1];exact this),by simpa using hr, .nil, .refl _ _⟩
 | n::r,i,hp,o,ws,hd,hr,hb,hn=>by
  have h1:l[i]?=some n:=by
   have:=congrArg (·[0]?) hd
   simpa using this
  have hi:i < l.length:=(List.getElem?_eq_some_iff.1 h1).1
  have hd':l.drop (i + 1)=r:=by rw [← List.drop_drop,hd];rfl
  obtain ⟨ks,hv,kvs,k1,k2⟩:=hR.get h1
  by_cases hk:n.kind=kd
  ·simp only [flatF,if_pos hk,List.length_append] at hb ⊢
   obtain ⟨hp1,o1,s1,s2,s3⟩:=fl_k (m:=m) (fl:=fl) (nv:=nv) hx hv (by rw [hnv,hR.1];exact hi) hnv2 hk k1 k2.agg hr (by rw [k2.1];omega) (by rw [k2.1];omega) hf hn
   obtain ⟨hp2,o2,us,r1,r2,r3,r4⟩:=fl_loop (m:=m) (fl:=fl) (kd:=kd) hx hR hnv hnv2 hf r (i + 1) hd' s2 (by rw [List.length_append,k2.1];omega) (Nat.le_trans hn s3.1)
   exact ⟨hp2,o2,kvs++us,s1 _ _ r1,by rw [← List.append_assoc];exact r2,k2.app r3,s3.trans r4⟩
  ·simp only [flatF,if_neg hk,List.length_append,List.length_cons,List.length_nil] at hb ⊢
   obtain ⟨hp1,o1,s1,s2,s3⟩:=fl_n (m:=m) (fl:=fl) (nv:=nv) hx hv (by rw [hnv,hR.1];exact hi) hnv2 hk hr (by simp only [List.length_cons,List.length_nil];omega) hf hn
   obtain ⟨hp2,o2,us,r1,r2,r3,r4⟩:=fl_loop (m:=m) (fl:=fl) (kd:=kd) hx hR hnv hnv2 hf r (i + 1) hd' s2 (by simp;omega) (Nat.le_trans hn s3.1)
   exact ⟨hp2,o2,[nAV n ks]++us,s1 _ _ r1,by rw [← List.append_assoc];exact r2,(NodesR.one (.of ⟨kvs,k1,k2⟩)).app r3,s3.trans r4⟩
theorem fl_lp {m:Int} {fl nv:Nat} {kd:Int} {lx:AV} {vs:List AV} {l:List Node} {hp:List Blk} (hx:IsSl 8 lx vs) (hR:NodesR l vs) (hnv:nv=vs.length) (hnv2:vs.length < 100000) (hb:(flatF kd l).length < 100000) (hf:fl≤hp.length):∃ hp' o' us,LoopI (cfg m) fl 45 (bodyAt (cfg m) 45 3) 3 ⟨flSt kd .nilS lx nv 0,hp⟩ (.exit 0) ⟨flEnd o',hp'⟩∧RowN hp.length 8 hp' o' us∧NodesR (flatF kd l) us∧PreN hp.length hp hp':=by
 obtain ⟨hp2,o2,us,r1,r2,r3,r4⟩:=fl_loop (m:=m) (fl:=fl) (n0:=hp.length) (kd:=kd) hx hR hnv (hnv ▸ hnv2) hf l 0 (hp:=hp) (o := .nilS) (ws:=[]) rfl (.nil _ _ _) (by simpa using hb) (Nat.le_refl _)
 exact ⟨hp2,o2,us,r1,by simpa using r2,r3,r4⟩
theorem flat_ok {m:Int} {fl:Nat} {kd:Int} {lx:AV} {vs:List AV} {l:List Node} {hp:List Blk} (hx:IsSl 8 lx vs) (hR:NodesR l vs) (hnv2:vs.length < 100000) (hb:(flatF kd l).length < 100000) (hf:fl≤hp.length):∃ o hp' us,evI (cfg m) fl 45 [.int .i64 kd,lx] hp=some (o,hp')∧RowN hp.length 8 hp' o us∧NodesR (flatF kd l) us∧PreN hp.length hp hp':=by
 obtain ⟨hp'1,o'2,us3,e4,h5,h6,h7⟩:=(fl_lp (m:=m) (nv:=vs.length) (kd:=kd) hx hR rfl hnv2 hb hf)
 exact ⟨_,hp'1,_,evX1 (o'2) (hp'1) [.m 2 1 (len_sl (C:=cfg m) (t:=41) (ts':=[]) (fl:=fl) (ar:=true) (hp:=hp) hx (by kernel_rfl)), .l 3 e4] (by kernel_rfl) (tlK1 (by kernel_rfl)) rfl,by assumption,by assumption,by assumption⟩
abbrev fnE:AV := .fn (.func 59) [] []
theorem isE {m:Int} {fl:Nat} {n:Node} {ks:AV} {hp:List Blk}:evI (cfg m) fl 59 [nAV n ks] hp=some (.bool (decide (n.kind=0)),hp):=by
 by_cases h1:n.kind=0
 ·exact evX (AV.bool true) (hp) [.b 1 2 (beq_iff_eq.2 h1)] (by kernel_rfl) (tlP (by kernel_rfl) rfl (shutT (v:=AV.bool true) (v':=AV.bool true) (by kernel_rfl))) (by simp [*])
 ·exact evX (AV.bool false) (hp) [.b 1 2 (beq_false_of_ne h1)] (by kernel_rfl) (tlP (by kernel_rfl) rfl (shutT (v:=AV.bool false) (v':=AV.bool false) (by kernel_rfl))) (by simp [*])
abbrev ixSt (b N i:Nat):List TV:=[.v (.arr 8 b 0 N), .v fnE,J,J,J,J,J, .v (AI N), .v (AI i)]++List.replicate 10 J
theorem ix_y {m:Int} {fl b N i:Nat} {hp:List Blk} {xs:List AV} {n:Node} {ks:AV} (hb:blkCells hp b=some (flat xs)) (hv:xs[i]?=some (nAV n ks)) (ha:AggN 8 xs) (hi:i < N) (hN:N < 100000) (hk:n.kind=0):LoopI (cfg m) fl 47 (bodyAt (cfg m) 47 2) 2 ⟨ixSt b N i,hp⟩ .ret ⟨[J,J,J,J, .v (AI i)]++List.replicate 14 J,hp⟩:=by
 exact loopEndC .ret (St.mk ([J,J,J,J,TV.v (AI i)]++Jn 14) hp) [.b 2 0 (decide_eq_true ((show (↑i:Int) < (↑N:Int) from (by omega)))), .a 4 3 (indexAddr_row (C:=cfg m) (t:=41) (sz:=8) (b:=b) (by kernel_rfl) hi), .m 4 4 (load_row (C:=cfg m) (t:=43) hb hv ha (by kernel_rfl)), .cb 4 5 (isE (m:=m) (fl:=fl) (n:=n) (ks:=ks) (hp:=hp)) (decide_eq_true (hk))] (by kernel_rfl) (fun h=>by cases h) rfl
theorem ix_n {m:Int} {fl b N i:Nat} {hp:List Blk} {xs:List AV} {n:Node} {ks:AV} (hb:blkCells hp b=some (flat xs)) (hv:xs[i]?=some (nAV n ks)) (ha:AggN 8 xs) (hi:i < N) (hN:N < 100000) (hk:¬ n.kind=0):LoopS (cfg m) fl 47 (bodyAt (cfg m) 47 2) 2 ⟨ixSt b N i,hp⟩ ⟨ixSt b N (i + 1),hp⟩:=by
 exact loopStepS (St.mk ([TV.v (AV.arr 8 b 0 N),TV.v (AV.fn (Fn.func 59) [] []),J,J,J,J,J,TV.v (AI N),TV.v (AI ((↑i:Int) + 1))]++Jn 10) hp) [.b 2 0 (decide_eq_true ((show (↑i:Int) < (↑N:Int) from (by omega)))), .a 4 3 (indexAddr_row (C:=cfg m) (t:=41) (sz:=8) (b:=b) (by kernel_rfl) hi), .m 4 4 (load_row (C:=cfg m) (t:=43) hb hv ha (by kernel_rfl)), .cb 4 5 (isE (m:=m) (fl:=fl) (n:=n) (ks:=ks) (hp:=hp)) (decide_eq_false (hk)), .w 6 0 IntKind.i64 ((↑i:Int) + 1) (wrap_i64' (by omega))] (by kernel_rfl) rfl
theorem ix_x {m:Int} {fl b N i:Nat} {hp:List Blk} (hi:N≤i):LoopI (cfg m) fl 47 (bodyAt (cfg m) 47 2) 2 ⟨ixSt b N i,hp⟩ (.exit 0) ⟨List.replicate 19 J,hp⟩:=by
 exact loopEndC (.exit 0) (St.mk ([J]++Jn 18) hp) [.b 2 0 (decide_eq_false ((show ¬(↑i:Int) < (↑N:Int) from (by omega))))] (by kernel_rfl) (fun h=>by cases h) rfl
abbrev dlSt (b N i j:Nat):List TV:=[.v (.arr 8 b 0 N), .v fnE,J,J,J, .v (AI i), .v (AI j)]++List.replicate 35 J
theorem dl_y {m:Int} {fl b N i j:Nat} {hp:List Blk} {xs:List AV} {n:Node} {ks:AV} (hb:blkCells hp b=some (flat xs)) (hv:xs[j]?=some (nAV n ks)) (ha:AggN 8 xs) (hNN:N=xs.length) (hij:i < j) (hi:j < N) (hN:N < 100000) (hk:n.kind=0):LoopS (cfg m) fl 58 (bodyAt (cfg m) 58 5) 5 ⟨dlSt b N i j,hp⟩ ⟨dlSt b N i (j + 1),hp⟩:=by
 exact loopStepS (St.mk ([TV.v (AV.arr 8 b 0 N),TV.v (AV.fn (Fn.func 59) [] []),J,J,J,TV.v (AI i),TV.v (AI ((↑j:Int) + 1))]++Jn 35) hp) [.b 5 3 (decide_eq_true ((show (↑j:Int) < (↑N:Int) from (by omega)))), .a 7 2 (indexAddr_row (C:=cfg m) (t:=41) (sz:=8) (b:=b) (by kernel_rfl) hi), .m 7 3 (load_row (C:=cfg m) (t:=43) hb hv ha (by kernel_rfl)), .cb 8 2 (isE (m:=m) (fl:=fl) (n:=n) (ks:=ks) (hp:=hp)) (decide_eq_true (hk)), .w 6 1 IntKind.i64 ((↑j:Int) + 1) (wrap_i64' (by omega))] (by kernel_rfl) rfl
theorem store_node {C:Cfg} {t:TypeId} {b i fl:Nat} {hp:List Blk} {xs:List AV} {n:Node} {ks:AV} (h:blkCells hp b=some (flat xs)) (ha:AggN 8 xs) (hi:i < xs.length) (ht:isAggT C t 8=true) (hn:(nAV n ks).noTup=true) (hf:fl≤b):∀ ts,storeAt C fl ⟨ts,hp⟩ t (.v (.ptr b (i * 8))) (nAV n ks)=some ⟨.sk,ts,setAt hp b (.cells (flat (xs.set i (nAV n ks)))), .hw⟩:=store_row h ha hi ht rfl hn hf
theorem dl_n {m:Int} {fl b N i j:Nat} {hp:List Blk} {xs:List AV} {n:Node} {ks:AV} (hb:blkCells hp b=some (flat xs)) (hv:xs[j]?=some (nAV n ks)) (ha:AggN 8 xs) (hNN:N=xs.length) (hij:i < j) (hi:j < N) (hN:N < 100000) (hk:¬ n.kind=0) (hf:fl≤b):LoopS (cfg m) fl 58 (bodyAt (cfg m) 58 5) 5 ⟨dlSt b N i j,hp⟩ ⟨dlSt b N (i + 1) (j + 1),setAt hp b (.cells (flat (xs.set i (nAV n ks))))⟩:=by
 exact loopStepS (St.mk [TV.v (AV.arr 8 b 0 N),TV.v (AV.fn (Fn.func 59) [] []),J,J,J,TV.v (AI ((↑i:Int) + 1)),TV.v (AI ((↑j:Int) + 1)),J,J,J,J,J,J,J,J,J,J,J,J,J,J,J,J,J,J,J,J,J,J,J,J,J,J,J,J,J,J,J,J,J,J,J] (setAt hp b (BC (flat (xs.set i (nAV n ks)))))) [.b 5 3 (decide_eq_true ((show (↑j:Int) < (↑N:Int) from (by omega)))), .a 7 2 (indexAddr_row (C:=cfg m) (t:=41) (sz:=8) (b:=b) (by kernel_rfl) hi), .m 7 3 (load_row (C:=cfg m) (t:=43) hb hv ha (by kernel_rfl)), .cb 8 2 (isE (m:=m) (fl:=fl) (n:=n) (ks:=ks) (hp:=hp)) (decide_eq_false (hk)), .a 9 3 (indexAddr_row (C:=cfg m) (t:=41) (sz:=8) (b:=b) (len:=N) (j:=i) (by kernel_rfl) (by omega)), .t 9 4 (store_node (C:=cfg m) (t:=43) (i:=i) (n:=n) (ks:=ks) hb ha (by omega) (by kernel_rfl) (by kernel_rfl) hf), .w 10 1 IntKind.i64 ((↑i:Int) + 1) (wrap_i64' (by omega)), .w 6 1 IntKind.i64 ((↑j:Int) + 1) (wrap_i64' (by omega))] (by kernel_rfl) rfl
theorem dl_x {m:Int} {fl b N i j:Nat} {hp:List Blk} (hi:N≤j):LoopI (cfg m) fl 58 (bodyAt (cfg m) 58 5) 5 ⟨dlSt b N i j,hp⟩ (.exit 0) ⟨[.v (.arr 8 b 0 N),J,J,J,J, .v (AI i)]++List.replicate 36 J,hp⟩:=by
 exact loopEndC (.exit 0) (St.mk ([TV.v (AV.arr 8 b 0 N),J,J,J,J,TV.v (AI i)]++Jn 36) hp) [.b 5 3 (decide_eq_false ((show ¬(↑j:Int) < (↑N:Int) from (by omega))))] (by kernel_rfl) (fun h=>by cases h) rfl
theorem ix_loop_none {m:Int} {fl b N:Nat} {hp:List Blk} {xs:List AV} (hb:blkCells hp b=some (flat xs)) (ha:AggN 8 xs) (hN:N=xs.length) (hN2:N < 100000):∀ (r:List Node) (i:Nat),NodesR r (xs.drop i)→(∀ n ∈ r,¬ n.kind=0)→LoopI (cfg m) fl 47 (bodyAt (cfg m) 47 2) 2 ⟨ixSt b N i,hp⟩ (.exit 0) ⟨List.replicate 19 J,hp⟩
 | [],i,hr,_=>ix_x (by have:=hr.1;simp at this;omega)
 | n::r,i,hr,hk=>by
  obtain ⟨ks,us,e,_,hr'⟩:=hr.cons_inv
  have hv:xs[i]?=some (nAV n ks):=by have:=congrArg (·[0]?) e;simpa using this
  have hi:i < xs.length:=(List.getElem?_eq_some_iff.1 hv).1
  have e':xs.drop (i + 1)=us:=by rw [← List.drop_drop,e];rfl
  exact ix_n (m:=m) (fl:=fl) (N:=N) hb hv ha (by omega) hN2 (hk n (by simp)) _ _ (ix_loop_none hb ha hN hN2 r (i + 1) (e' ▸ hr') fun q hq=>hk q (by simp [hq]))
theorem ix_loop_some {m:Int} {fl b N:Nat} {hp:List Blk} {xs:List AV} (hb:blkCells hp b=some (flat xs)) (ha:AggN 8 xs) (hN:N=xs.length) (hN2:N < 100000):∀ (r:List Node) (i:Nat),NodesR r (xs.drop i)→(∃ n ∈ r,n.kind=0)→∃ a k c,r=a++k::c∧(∀ n ∈ a,¬ n.kind=0)∧k.kind=0∧LoopI (cfg m) fl 47 (bodyAt (cfg m) 47 2) 2 ⟨ixSt b N i,hp⟩ .ret ⟨[J,J,J,J, .v (AI ((i + a.length:Nat):Int))]++List.replicate 14 J,hp⟩
 | [],i,_,h=>by obtain ⟨n,hn,_⟩:=h;cases hn
 | n::r,i,hr,h=>by
  obtain ⟨ks,us,e,_,hr'⟩:=hr.cons_inv
  have hv:xs[i]?=some (nAV n ks):=by have:=congrArg (·[0]?) e;simpa using this
  have hi:i < xs.length:=(List.getElem?_eq_some_iff.1 hv).1
  have e':xs.drop (i + 1)=us:=by rw [← List.drop_drop,e];rfl
  by_cases hk:n.kind=0
  ·exact ⟨[],n,r,rfl,by simp,hk,ix_y hb hv ha (by omega) hN2 hk⟩
  ·obtain ⟨a,k,c,rfl,h1,h2,h3⟩:=ix_loop_some (m:=m) (fl:=fl) hb ha hN hN2 r (i + 1) (e' ▸ hr') (by
    obtain ⟨q,hq,hq2⟩:=h
    rcases List.mem_cons.1 hq with rfl | hq
    ·exact absurd hq2 hk
    ·exact ⟨q,hq,hq2⟩)
   refine ⟨n::a,k,c,rfl, ?_,h2, ?_⟩
   ·intro q hq
    rcases List.mem_cons.1 hq with rfl | hq
    ·exact hk
    ·exact h1 q hq
   ·have:=ix_n (m:=m) (fl:=fl) (N:=N) hb hv ha (by omega) hN2 hk _ _ h3
    rw [List.length_cons,show i + (a.length + 1)=i + 1 + a.length by omega]
    exact this
def full (l:List Node):List Node:=l.filter fun n => !decide (n.kind=0)
theorem dl_loop {m:Int} {fl n0 b N:Nat} (hN2:N < 100000) (hf:fl≤n0) (hb0:n0≤b):∀ (r:List Node) (i j:Nat) {hp:List Blk} {xs:List AV} {kept:List Node},blkCells hp b=some (flat xs)→AggN 8 xs→N=xs.length→i < j→j≤N→NodesR r (xs.drop j)→NodesR kept (xs.take i) →
  ∃ hp' xs' i',LoopI (cfg m) fl 58 (bodyAt (cfg m) 58 5) 5 ⟨dlSt b N i j,hp⟩ (.exit 0) ⟨[.v (.arr 8 b 0 N),J,J,J,J, .v (AI (i':Nat))]++List.replicate 36 J,hp'⟩∧blkCells hp' b=some (flat xs')∧AggN 8 xs'∧N=xs'.length∧i' < N∧NodesR (kept++full r) (xs'.take i')∧PreN n0 hp hp'
 | [],i,j,hp,xs,kept,hb,ha,hN,hij,hjN,hr,hk=>by
  have:N≤j:=by have:=hr.1;simp at this;omega
  exact ⟨hp,xs,i,dl_x this,hb,ha,hN,by omega,by simpa [full] using hk, .refl _ _⟩
 | n::r,i,j,hp,xs,kept,hb,ha,hN,hij,hjN,hr,hk=>by
  obtain ⟨ks,us,e,hkk,hr'⟩:=hr.cons_inv
  have hv:xs[j]?=some (nAV n ks):=by have:=congrArg (·[0]?) e;simpa using this
  have hi:j < xs.length:=(List.getElem?_eq_some_iff.1 hv).1
  have e':xs.drop (j + 1)=us:=by rw [← List.drop_drop,e];rfl
  by_cases hz:n.kind=0
  ·obtain ⟨hp',xs',i',g1,g2⟩:=dl_loop (m:=m) (fl:=fl) hN2 hf hb0 r i (j + 1) hb ha hN (by omega) (by omega) (e' ▸ hr') hk
   refine ⟨hp',xs',i',dl_y (m:=m) hb hv ha hN hij (by omega) hN2 hz _ _ g1, ?_⟩
   have:full (n::r)=full r:=by simp [full,hz]
   rw [this];exact g2
  ·have e1:(xs.set i (nAV n ks)).drop (j + 1)=us:=by rw [List.drop_set_of_lt (by omega)];exact e'
   have e2:(xs.set i (nAV n ks)).take (i + 1)=xs.take i++[nAV n ks]:=by
    rw [List.take_add_one,List.take_set_of_le (Nat.le_refl _),List.getElem?_set_self (by omega)];rfl
   obtain ⟨hp',xs',i',g1,g2,g3,g4,g5,g6,g7⟩:=dl_loop (m:=m) (fl:=fl) hN2 hf hb0 r (i + 1) (j + 1) (hp:=setAt hp b (.cells (flat (xs.set i (nAV n ks))))) (xs:=xs.set i (nAV n ks)) (kept:=kept++[n]) (blk_set (blk_lt hb)) (ha.set rfl) (by simpa using hN) (by omega) (by omega) (e1 ▸ hr') (e2 ▸ hk.app (NodesR.one (.of hkk)))
   refine ⟨hp',xs',i',dl_n (m:=m) hb hv ha hN hij (by omega) hN2 hz (by omega) _ _ g1,g2,g3,g4,g5, ?_,(PreN.set hb0).trans g7⟩
   have:full (n::r)=n::full r:=by simp [full,hz]
   rw [this];simpa using g6
theorem ix_nil {m:Int} {fl:Nat} {hp:List Blk}:evI (cfg m) fl 47 [.nilS,fnE] hp=some (.int .i64 (-1),hp):=by
 exact evX (AI (-1)) (hp) [.l 2 (show LoopI (cfg m) (hp.length) 47 (bodyAt (cfg m) 47 2) 2 (St.mk ([TV.v AV.nilS,TV.v (AV.fn (Fn.func 59) [] []),J,J,J,J,J,TV.v (AI 0),TV.v (AI 0)]++Jn 10) hp) (.exit 0) (St.mk ([J]++Jn 18) hp) from (loopEndC (.exit 0) (St.mk ([J]++Jn 18) hp) [] (by kernel_rfl) (fun h=>by cases h) rfl))] (by kernel_rfl) (tlP (by kernel_rfl) rfl (shutT (v:=AI (-1)) (v':=AI (-1)) (by kernel_rfl))) rfl
theorem ix_none {m:Int} {fl b N:Nat} {hp:List Blk} (h:LoopI (cfg m) hp.length 47 (bodyAt (cfg m) 47 2) 2 ⟨[.v (.arr 8 b 0 N), .v fnE,J,J,J,J,J, .v (AI N), .v (AI 0)]++List.replicate 10 J,hp⟩ (.exit 0) ⟨List.replicate 19 J,hp⟩):evI (cfg m) fl 47 [.arr 8 b 0 N,fnE] hp=some (.int .i64 (-1),hp):=by
 exact evX (AI (-1)) (hp) [.l 2 h] (by kernel_rfl) (tlP (by kernel_rfl) rfl (shutT (v:=AI (-1)) (v':=AI (-1)) (by kernel_rfl))) rfl
theorem ix_some {m:Int} {fl b N k:Nat} {hp:List Blk} (h:LoopI (cfg m) hp.length 47 (bodyAt (cfg m) 47 2) 2 ⟨[.v (.arr 8 b 0 N), .v fnE,J,J,J,J,J, .v (AI N), .v (AI 0)]++List.replicate 10 J,hp⟩ .ret ⟨[J,J,J,J, .v (AI k)]++List.replicate 14 J,hp⟩):evI (cfg m) fl 47 [.arr 8 b 0 N,fnE] hp=some (.int .i64 k,hp):=by
 exact evX (AI k) (hp) [.l 2 h] (by kernel_rfl) (tlP (by kernel_rfl) rfl (shutT (v:=AI k) (v':=AI k) (by kernel_rfl))) rfl
theorem del_nil {m:Int} {fl:Nat} {hp:List Blk}:evI (cfg m) fl 58 [.nilS,fnE] hp=some (.nilS,hp):=by
 exact evX (AV.nilS) (hp) [.c 1 2 (ix_nil (m:=m) (fl:=fl) (hp:=hp))] (by kernel_rfl) (tlK (by kernel_rfl) rfl) rfl
theorem del_none {m:Int} {fl b N:Nat} {hp:List Blk} (h:evI (cfg m) fl 47 [.arr 8 b 0 N,fnE] hp=some (.int .i64 (-1),hp)):evI (cfg m) fl 58 [.arr 8 b 0 N,fnE] hp=some (.arr 8 b 0 N,hp):=by
 exact evX (AV.arr 8 b 0 N) (hp) [.c 1 2 h] (by kernel_rfl) (tlK (by kernel_rfl) rfl) rfl
theorem del_some {m:Int} {fl b N k i':Nat} {hp hp1:List Blk} {xs:List AV} (h:evI (cfg m) fl 47 [.arr 8 b 0 N,fnE] hp=some (.int .i64 k,hp)) (hk:k < 100000) (hl:LoopI (cfg m) fl 58 (bodyAt (cfg m) 58 5) 5 ⟨dlSt b N k (k + 1),hp⟩ (.exit 0) ⟨[.v (.arr 8 b 0 N),J,J,J,J, .v (AI i')]++List.replicate 36 J,hp1⟩) (hb:blkCells hp1 b=some (flat xs)) (ha:AggN 8 xs) (hN:N=xs.length) (hi:i' < N) (hf:fl≤b):∃ hp' rest,evI (cfg m) fl 58 [.arr 8 b 0 N,fnE] hp=some (.arr 8 b 0 i',hp')∧hp'=setAt hp1 b (.cells (flat (xs.take i')++rest))∧blkCells hp' b=some (flat (xs.take i')++rest):=by
 obtain ⟨hp'1,rest2,e3,h4,h5⟩:=(clear_row (C:=cfg m) (t:=41) (len:=N - i') (i:=i') hb ha (by omega) (by omega) (by kernel_rfl) (by omega) hf)
 exact ⟨hp'1,_,evX (AV.arr 8 b 0 i') (hp'1) [.c 1 2 h, .b 2 1 (beq_false_of_ne ((show ¬(↑k:Int) = -1 from (by omega)))), .w 4 1 IntKind.i64 ((↑k:Int) + 1) (wrap_i64' (by omega)), .l 5 hl, .s 11 2 (hp1) Fp.hr (slice_row_from (C:=cfg m) (t:=41) (sz:=8) (k:=IntKind.i64) hb (by kernel_rfl) hi), .m 11 3 e3, .s 12 2 (hp'1) Fp.hr (slice_row_to (C:=cfg m) (t:=41) (sz:=8) (k:=IntKind.i64) h5 (by kernel_rfl) hi)] (by kernel_rfl) (tlK (by kernel_rfl) rfl) rfl,by assumption,by assumption⟩
theorem del_ok {m:Int} {fl n0:Nat} {hp:List Blk} {o:AV} {us:List AV} {l:List Node} (h:RowN n0 8 hp o us) (hR:NodesR l us) (hl:us.length < 100000) (hf:fl≤n0):∃ o' hp' ws,evI (cfg m) fl 58 [o,fnE] hp=some (o',hp')∧RowT n0 8 hp' o' ws∧NodesR (full l) ws∧PreN n0 hp hp':=by
 rcases h with ⟨rfl,rfl⟩ | ⟨b,rfl,h2,h3,h4⟩
 ·have:l=[]:=List.length_eq_zero_iff.1 hR.1.symm
  subst this
  exact ⟨.nilS,hp,[],del_nil, .inl ⟨rfl,rfl⟩, .nil, .refl _ _⟩
 ·by_cases hk:∃ n ∈ l,n.kind=0
  ·obtain ⟨a,k,c,rfl,g1,g2,g3⟩:=ix_loop_some (m:=m) (fl:=hp.length) h2 h4 rfl hl l 0 (by simpa using hR) hk
   have hla:(a++k::c).length=us.length:=hR.1.symm
   simp only [List.length_append,List.length_cons] at hla
   have hra:NodesR a (us.take a.length):=⟨by rw [List.length_take];omega,fun i q v hq hv=>hR.2 i q v (by rw [List.getElem?_append_left (List.getElem?_eq_some_iff.1 hq).1];exact hq) (by
    have hi:=(List.getElem?_eq_some_iff.1 hq).1
    rw [List.getElem?_take_of_lt hi] at hv;exact hv)⟩
   have hrc:NodesR c (us.drop (a.length + 1)):=⟨by rw [List.length_drop];omega,fun i q v hq hv=>hR.2 (a.length + 1 + i) q v (by rw [List.getElem?_append_right (by omega),show a.length + 1 + i - a.length=i + 1 by omega];simpa using hq) (by rw [List.getElem?_drop] at hv;exact hv)⟩
   obtain ⟨hp1,xs',i',e1,e2,e3,e4,e5,e6,e7⟩:=dl_loop (m:=m) (fl:=fl) (N:=us.length) hl hf h3 c a.length (a.length + 1) h2 h4 rfl (by omega) (by omega) hrc hra
   rw [Nat.zero_add] at g3
   obtain ⟨hp2,rest,d1,d2,d3⟩:=del_some (m:=m) (fl:=fl) (ix_some g3) (by omega) e1 e2 e3 e4 e5 (by omega)
   have ef:full (a++k::c)=a++full c:=by
    have:a.filter (fun n => !decide (n.kind=0))=a:=List.filter_eq_self.2 fun n hn=>by simpa using g1 n hn
    simp only [full,List.filter_append,this,List.filter_cons,g2,decide_true,Bool.not_true,Bool.false_eq_true,if_false]
   have el:(xs'.take i').length=i':=by rw [List.length_take];omega
   refine ⟨_,hp2,xs'.take i',d1, .inr ⟨b,rest,by rw [el],d3,h3,e3.take⟩,ef ▸ e6,e7.trans (d2 ▸ PreN.set h3)⟩
  ·have hk':∀ n ∈ l,¬ n.kind=0:=fun n hn h=>hk ⟨n,hn,h⟩
   have g:=ix_loop_none (m:=m) (fl:=hp.length) h2 h4 rfl hl l 0 (by simpa using hR) hk'
   have ef:full l=l:=List.filter_eq_self.2 fun n hn=>by simpa using hk' n hn
   exact ⟨_,hp,us,del_none (ix_none g),RowN.rowT (.inr ⟨b,rfl,h2,h3,h4⟩),ef.symm ▸ hR, .refl _ _⟩
def catF (l:List Node):Node:=match full (flatF 4 l) with
 | [] => .empty
 | [n]=>n
 | f => .mk 4 W4.zero 0 0 f
theorem cat_nil {m:Int} {fl:Nat} {lx o1:AV} {hp hp1 hp2:List Blk} (h1:evI (cfg m) hp.length 45 [.int .i64 4,lx] hp=some (o1,hp1)) (h2:evI (cfg m) hp.length 58 [o1,fnE] hp1=some (.nilS,hp2)):evI (cfg m) fl 43 [lx] hp=some (nAV .empty .nilS,hp):=by
 exact evX (AV.agg [AI 0,AW 0,AW 0,AW 0,AW 0,AI 0,AI 0,AV.nilS]) (hp2) [.c 1 1 h1, .c 1 2 h2] (by kernel_rfl) (tlP (by kernel_rfl) rfl (shutT (v:=AV.agg [AI 0,AW 0,AW 0,AW 0,AW 0,AI 0,AI 0,AV.nilS]) (v':=AV.agg [AI 0,AW 0,AW 0,AW 0,AW 0,AI 0,AI 0,AV.nilS]) (by kernel_rfl))) rfl
theorem cat_0 {m:Int} {fl b:Nat} {lx o1:AV} {hp hp1 hp2:List Blk} (h1:evI (cfg m) hp.length 45 [.int .i64 4,lx] hp=some (o1,hp1)) (h2:evI (cfg m) hp.length 58 [o1,fnE] hp1=some (.arr 8 b 0 0,hp2)):evI (cfg m) fl 43 [lx] hp=some (nAV .empty .nilS,hp):=by
 exact evX (AV.agg [AI 0,AW 0,AW 0,AW 0,AW 0,AI 0,AI 0,AV.nilS]) (hp2) [.c 1 1 h1, .c 1 2 h2] (by kernel_rfl) (tlP (by kernel_rfl) rfl (shutT (v:=AV.agg [AI 0,AW 0,AW 0,AW 0,AW 0,AI 0,AI 0,AV.nilS]) (v':=AV.agg [AI 0,AW 0,AW 0,AW 0,AW 0,AI 0,AI 0,AV.nilS]) (by kernel_rfl))) rfl
theorem cat_1 {m:Int} {fl b:Nat} {lx o1 v' ks:AV} {n:Node} {rest:List AV} {hp hp1 hp2:List Blk} (h1:evI (cfg m) hp.length 45 [.int .i64 4,lx] hp=some (o1,hp1)) (h2:evI (cfg m) hp.length 58 [o1,fnE] hp1=some (.arr 8 b 0 1,hp2)) (hb:blkCells hp2 b=some (flat [nAV n ks]++rest)) (hs:shutV hp2 hp.length 100000 (nAV n ks)=some v'):evI (cfg m) fl 43 [lx] hp=some (v',hp):=by
 exact evX (AV.agg [AI n.kind,AW n.set.a.toNat,AW n.set.b.toNat,AW n.set.c.toNat,AW n.set.d.toNat,AI n.mn,AI n.mx,ks]) (hp2) [.c 1 1 h1, .c 1 2 h2, .m 6 2 (load_0 (C:=cfg m) (t:=43) hb (by kernel_rfl))] (by kernel_rfl) (tlP (by kernel_rfl) rfl hs) rfl
theorem cat_n {m:Int} {fl b k:Nat} {lx o1 v':AV} {hp hp1 hp2:List Blk} (h1:evI (cfg m) hp.length 45 [.int .i64 4,lx] hp=some (o1,hp1)) (h2:evI (cfg m) hp.length 58 [o1,fnE] hp1=some (.arr 8 b 0 k,hp2)) (hk:2≤k) (hs:shutV hp2 hp.length 100000 (.agg [.int .i64 4, .int .u64 0, .int .u64 0, .int .u64 0, .int .u64 0, .int .i64 0, .int .i64 0, .arr 8 b 0 k])=some v'):evI (cfg m) fl 43 [lx] hp=some (v',hp):=by
 exact evX (AV.agg [AI 4,AW 0,AW 0,AW 0,AW 0,AI 0,AI 0,AV.arr 8 b 0 k]) (hp2) [.c 1 1 h1, .c 1 2 h2, .b 3 0 (beq_false_of_ne ((show ¬(↑k:Int)=0 from (by omega)))), .b 5 0 (beq_false_of_ne ((show ¬(↑k:Int)=1 from (by omega))))] (by kernel_rfl) (tlP (by kernel_rfl) rfl hs) rfl
theorem kids_of {l:List Node} {ks:AV} {kd a b:Int} {s:W4} (h:KidsR l ks):NodeR (.mk kd s a b l) (nAV (.mk kd s a b []) ks):=NodeR.of (n := .mk kd s a b l) h
theorem cat_ok {m:Int} {fl d:Nat} {lx:AV} {vs:List AV} {l:List Node} {hp:List Blk} (hx:IsSl 8 lx vs) (hR:NodesR l vs) (hnv2:vs.length < 100000) (hb:(flatF 4 l).length < 100000) (hd:∀ n ∈ l,Dep d n) (hD:d≤10000):∃ v,evI (cfg m) fl 43 [lx] hp=some (v,hp)∧NodeR (catF l) v∧Dep (d + 1) (catF l):=by
 obtain ⟨o1,hp1,us,a1,a2,a3,a4⟩:=flat_ok (m:=m) (fl:=hp.length) (kd:=4) (hp:=hp) hx hR hnv2 hb (Nat.le_refl _)
 obtain ⟨o2,hp2,ws,b1,b2,b3,b4⟩:=del_ok (m:=m) (fl:=hp.length) a2 a3 (by rw [a3.1];exact hb) (Nat.le_refl _)
 have hdf:∀ (l:List Node),(∀ n ∈ l,Dep d n)→∀ n ∈ flatF 4 l,Dep d n:=by
  intro l
  induction l with
  | nil=>intro _ n hn;cases hn
  | cons a l ih =>
   intro h n hn
   simp only [flatF,List.mem_append] at hn
   rcases hn with hn | hn
   ·by_cases ha:a.kind=4
    ·rw [if_pos ha] at hn
     have:=h a (by simp)
     obtain ⟨e,rfl⟩:∃ e,d=e + 1:=by
      cases d with
      | zero=>exact this.elim
      | succ e=>exact ⟨e,rfl⟩
     exact (this n hn).mono (by omega)
    ·rw [if_neg ha] at hn
     have:n=a:=by simpa using hn
     exact this ▸ h a (by simp)
   ·exact ih (fun q hq=>h q (by simp [hq])) n hn
 have hdw:∀ n ∈ full (flatF 4 l),Dep d n:=fun n hn=>hdf l hd n (List.mem_filter.1 hn).1
 have hlen:=b3.1
 unfold catF
 match he:full (flatF 4 l),hdw with
 | [],_ =>
  rw [he] at b3
  have hw:ws=[]:=List.length_eq_zero_iff.1 (by simpa using b3.1)
  subst hw
  have hD0:Dep (d + 1) Node.empty:=fun k hk=>by cases hk
  rcases b2 with ⟨rfl,_⟩ | ⟨b,rest,rfl,_⟩
  ·exact ⟨_,cat_nil a1 b1, .of ⟨[], .nil _, .nil⟩,hD0⟩
  ·exact ⟨_,cat_0 a1 b1, .of ⟨[], .nil _, .nil⟩,hD0⟩
 | [n],hdw =>
  rw [he] at b3
  obtain ⟨ks,us',rfl,hk,h0⟩:=b3.cons_inv
  have:us'=[]:=List.length_eq_zero_iff.1 (by simpa using h0.1)
  subst this
  rcases b2 with ⟨_,h⟩ | ⟨b,rest,rfl,e1,e2,_⟩
  ·cases h
  ·have hdn:=hdw n (by simp)
   obtain ⟨v',s1,s2⟩:=shut_node hp.length 100000 hdn (.of hk) (by omega)
   exact ⟨v',cat_1 a1 b1 e1 (s1 hp2),s2,hdn.mono (by omega)⟩
 | n1::n2::f,hdw =>
  rw [he] at b3
  have hdd:Dep (d + 1) (.mk 4 W4.zero 0 0 (n1::n2::f)):=hdw
  obtain ⟨ks',s1,s2⟩:=shut_rowT (k:=hp.length) (D:=99999) b2 b3 hdw (Nat.le_refl _) (by omega)
  have hl:2≤ws.length:=by rw [b3.1];simp
  rcases b2 with ⟨_,h⟩ | ⟨b,rest,rfl,e1,e2,_⟩
  ·subst h;simp at hl
  ·exact ⟨_,cat_n a1 b1 hl (shut_agg (n := .mk 4 W4.zero 0 0 []) s1 (by omega)),kids_of s2,hdd⟩
def dotS:W4:=W4.not (W4.zero.with 10 10)
theorem dot_ok {m:Int} {fl:Nat} {hp:List Blk}:evI (cfg m) fl 49 [] hp=some (.agg dotS.av,hp):=by
 exact evX (AV.agg [AW 18446744073709550591,AW 18446744073709551615,AW 18446744073709551615,AW 18446744073709551615]) (hp) [.c 1 2 (setN (m:=m) (fl:=hp.length) (hp:=hp)), .c 1 3 (evI_of (C:=cfg m) (k:=3000) (fl:=hp.length) (f:=64) (a:=[AV.agg [AW 1024,AW 0,AW 0,AW 0]]) (h:=hp) (r:=(AV.agg [AW 18446744073709550591,AW 18446744073709551615,AW 18446744073709551615,AW 18446744073709551615],hp)) (by kernel_rfl))] (by kernel_rfl) (tlP (by kernel_rfl) rfl (shutT (v:=AV.agg [AW 18446744073709550591,AW 18446744073709551615,AW 18446744073709551615,AW 18446744073709551615]) (v':=AV.agg [AW 18446744073709550591,AW 18446744073709551615,AW 18446744073709551615,AW 18446744073709551615]) (by kernel_rfl))) rfl
theorem esc_a {m:Int} {fl rb p:Nat} {hp:List Blk} {s:List UInt8} {bad:Int} {a:W4 × Bool × Nat} (hb:blkCells hp rb=some (rdB s p bad)) (ha:escF s p bad=a) (hf:fl≤rb) (hl:s.length≤256):∃ hp',evI (cfg m) fl 71 [.ptr rb 0] hp=some (.tup [.agg a.1.av, .bool a.2.1],hp')∧blkCells hp' rb=some (rdB s a.2.2 bad)∧FrE [rb] hp hp':=ha ▸ escaped_ok hb hf hl
theorem cls_a {m:Int} {fl rb p:Nat} {hp:List Blk} {s:List UInt8} {bad:Int} {a:W4 × Bool × Nat} (hb:blkCells hp rb=some (rdB s p bad)) (ha:classF s p bad=a) (hf:fl≤rb) (hl:s.length≤256):∃ hp',evI (cfg m) fl 72 [.ptr rb 0] hp=some (.tup [.agg a.1.av, .bool a.2.1],hp')∧blkCells hp' rb=some (rdB s a.2.2 bad)∧FrE [rb] hp hp':=ha ▸ class_ok hb hf hl
theorem wrong_b {m:Int} {fl rb p:Nat} {hp:List Blk} {s:List UInt8} {bad w:Int} (hb:blkCells hp rb=some (rdB s p bad)) (hbad:bad < 0) (hf:fl≤rb):∃ hp',evI (cfg m) fl 62 [.ptr rb 0, .int .i64 w] hp=some (.agg [AI 0,AW 0,AW 0,AW 0,AW 0,AI 0,AI 0, .nilS],hp')∧blkCells hp' rb=some (rdB s p w)∧FrE [rb] hp hp':=by
 obtain ⟨hp',h1,h2,h3⟩:=wrong_ok (m:=m) (w:=w) hb hf
 exact ⟨hp',h1,by rw [if_pos hbad] at h2;exact h2,h3⟩
abbrev emptyAV:AV:=nAV .empty .nilS
theorem at_dot {m:Int} {fl rb p:Nat} {hp:List Blk} {s:List UInt8} {bad:Int} (hb:blkCells hp rb=some (rdB s p bad)) (hp1:p < s.length) (hc:gb s p=46) (hf:fl≤rb) (hl:s.length≤256):∃ hp',evI (cfg m) fl 60 [.ptr rb 0] hp=some (nAV (.one dotS) .nilS,hp')∧blkCells hp' rb=some (rdB s (p + 1) bad)∧FrE [rb] hp hp':=by
 exact ⟨setAt hp rb (BC [AV.str s,AI ((↑p:Int) + 1),AI bad]),evX (AV.agg [AI 1,AW 18446744073709550591,AW 18446744073709551615,AW 18446744073709551615,AW 18446744073709551615,AI 0,AI 0,AV.nilS]) (setAt hp rb (BC [AV.str s,AI ((↑p:Int) + 1),AI bad])) [.m 1 4 (load_ok (C:=cfg m) (t:=3) (off:=1) (x:=AI p) hb (by kernel_rfl)), .m 2 4 (load_ok (C:=cfg m) (t:=9) (off:=0) (x:=AV.str s) hb (by kernel_rfl)), .v 2 6 (index_gb (C:=cfg m) (t:=9) (s:=s) (n:=(↑p:Int)) (by kernel_rfl) (by omega) (by omega)), .m 3 4 (load_ok (C:=cfg m) (t:=3) (off:=1) (x:=AI p) hb (by kernel_rfl)), .w 3 5 IntKind.i64 ((↑p:Int) + 1) (wrap_i64' (by omega)), .t 3 9 (store_ok (C:=cfg m) (t:=3) (off:=1) (hp':=setAt hp rb (BC [AV.str s,AI ((↑p:Int) + 1),AI bad])) (cs':=[AV.str s,AI ((↑p:Int) + 1),AI bad]) (x:=AI ((↑p:Int) + 1)) hb (by kernel_rfl) hf rfl), .b 5 0 (bneUL 40 rfl (show ¬gb s p=40 from (by simp_all;done))), .b 10 0 (beqUL 46 rfl hc), .c 11 0 (dot_ok (m:=m) (fl:=fl) (hp:=setAt hp rb (BC [AV.str s,AI ((↑p:Int) + 1),AI bad])))] (by kernel_rfl) (tlK (by kernel_rfl) rfl) rfl,blk_set (blk_lt hb),FrE.set (List.mem_singleton.2 rfl)⟩
theorem at_beg {m:Int} {fl rb p:Nat} {hp:List Blk} {s:List UInt8} {bad:Int} (hb:blkCells hp rb=some (rdB s p bad)) (hp1:p < s.length) (hc:gb s p=94) (hf:fl≤rb) (hl:s.length≤256):∃ hp',evI (cfg m) fl 60 [.ptr rb 0] hp=some (nAV (.mk 2 W4.zero 0 0 []) .nilS,hp')∧blkCells hp' rb=some (rdB s (p + 1) bad)∧FrE [rb] hp hp':=by
 exact ⟨setAt hp rb (BC [AV.str s,AI ((↑p:Int) + 1),AI bad]),evX (AV.agg [AI 2,AW 0,AW 0,AW 0,AW 0,AI 0,AI 0,AV.nilS]) (setAt hp rb (BC [AV.str s,AI ((↑p:Int) + 1),AI bad])) [.m 1 4 (load_ok (C:=cfg m) (t:=3) (off:=1) (x:=AI p) hb (by kernel_rfl)), .m 2 4 (load_ok (C:=cfg m) (t:=9) (off:=0) (x:=AV.str s) hb (by kernel_rfl)), .v 2 6 (index_gb (C:=cfg m) (t:=9) (s:=s) (n:=(↑p:Int)) (by kernel_rfl) (by omega) (by omega)), .m 3 4 (load_ok (C:=cfg m) (t:=3) (off:=1) (x:=AI p) hb (by kernel_rfl)), .w 3 5 IntKind.i64 ((↑p:Int) + 1) (wrap_i64' (by omega)), .t 3 9 (store_ok (C:=cfg m) (t:=3) (off:=1) (hp':=setAt hp rb (BC [AV.str s,AI ((↑p:Int) + 1),AI bad])) (cs':=[AV.str s,AI ((↑p:Int) + 1),AI bad]) (x:=AI ((↑p:Int) + 1)) hb (by kernel_rfl) hf rfl), .b 5 0 (bneUL 40 rfl (show ¬gb s p=40 from (by simp_all;done))), .b 10 0 (bneUL 46 rfl (show ¬gb s p=46 from (by simp_all;done))), .b 12 0 (beqUL 94 rfl hc)] (by kernel_rfl) (tlK (by kernel_rfl) rfl) rfl,blk_set (blk_lt hb),FrE.set (List.mem_singleton.2 rfl)⟩
theorem at_end {m:Int} {fl rb p:Nat} {hp:List Blk} {s:List UInt8} {bad:Int} (hb:blkCells hp rb=some (rdB s p bad)) (hp1:p < s.length) (hc:gb s p=36) (hf:fl≤rb) (hl:s.length≤256):∃ hp',evI (cfg m) fl 60 [.ptr rb 0] hp=some (nAV (.mk 3 W4.zero 0 0 []) .nilS,hp')∧blkCells hp' rb=some (rdB s (p + 1) bad)∧FrE [rb] hp hp':=by
 exact ⟨setAt hp rb (BC [AV.str s,AI ((↑p:Int) + 1),AI bad]),evX (AV.agg [AI 3,AW 0,AW 0,AW 0,AW 0,AI 0,AI 0,AV.nilS]) (setAt hp rb (BC [AV.str s,AI ((↑p:Int) + 1),AI bad])) [.m 1 4 (load_ok (C:=cfg m) (t:=3) (off:=1) (x:=AI p) hb (by kernel_rfl)), .m 2 4 (load_ok (C:=cfg m) (t:=9) (off:=0) (x:=AV.str s) hb (by kernel_rfl)), .v 2 6 (index_gb (C:=cfg m) (t:=9) (s:=s) (n:=(↑p:Int)) (by kernel_rfl) (by omega) (by omega)), .m 3 4 (load_ok (C:=cfg m) (t:=3) (off:=1) (x:=AI p) hb (by kernel_rfl)), .w 3 5 IntKind.i64 ((↑p:Int) + 1) (wrap_i64' (by omega)), .t 3 9 (store_ok (C:=cfg m) (t:=3) (off:=1) (hp':=setAt hp rb (BC [AV.str s,AI ((↑p:Int) + 1),AI bad])) (cs':=[AV.str s,AI ((↑p:Int) + 1),AI bad]) (x:=AI ((↑p:Int) + 1)) hb (by kernel_rfl) hf rfl), .b 5 0 (bneUL 40 rfl (show ¬gb s p=40 from (by simp_all;done))), .b 10 0 (bneUL 46 rfl (show ¬gb s p=46 from (by simp_all;done))), .b 12 0 (bneUL 94 rfl (show ¬gb s p=94 from (by simp_all;done))), .b 14 0 (beqUL 36 rfl hc)] (by kernel_rfl) (tlK (by kernel_rfl) rfl) rfl,blk_set (blk_lt hb),FrE.set (List.mem_singleton.2 rfl)⟩
theorem at_esc1 {a:W4 × Bool × Nat} {m:Int} {fl rb p:Nat} {hp:List Blk} {s:List UInt8} {bad:Int} (hb:blkCells hp rb=some (rdB s p bad)) (hp1:p < s.length) (hc:gb s p=92) (ha:escF s (p + 1) bad=a) (hok:a.2.1=true) (hf:fl≤rb) (hl:s.length≤256):∃ hp',evI (cfg m) fl 60 [.ptr rb 0] hp=some (nAV (.one a.1) .nilS,hp')∧blkCells hp' rb=some (rdB s a.2.2 bad)∧FrE [rb] hp hp':=by
 obtain ⟨hp'1,e2,h3,h4⟩:=(esc_a (m:=m) (hp:=setAt hp rb (BC [AV.str s,AI ((↑p:Int) + 1),AI bad])) (bad:=bad) (blk_set (blk_lt hb)) ha hf hl)
 exact ⟨hp'1,evX (AV.agg [AI 1,AW a.fst.a.toNat,AW a.fst.b.toNat,AW a.fst.c.toNat,AW a.fst.d.toNat,AI 0,AI 0,AV.nilS]) (hp'1) [.m 1 4 (load_ok (C:=cfg m) (t:=3) (off:=1) (x:=AI p) hb (by kernel_rfl)), .m 2 4 (load_ok (C:=cfg m) (t:=9) (off:=0) (x:=AV.str s) hb (by kernel_rfl)), .v 2 6 (index_gb (C:=cfg m) (t:=9) (s:=s) (n:=(↑p:Int)) (by kernel_rfl) (by omega) (by omega)), .m 3 4 (load_ok (C:=cfg m) (t:=3) (off:=1) (x:=AI p) hb (by kernel_rfl)), .w 3 5 IntKind.i64 ((↑p:Int) + 1) (wrap_i64' (by omega)), .t 3 9 (store_ok (C:=cfg m) (t:=3) (off:=1) (hp':=setAt hp rb (BC [AV.str s,AI ((↑p:Int) + 1),AI bad])) (cs':=[AV.str s,AI ((↑p:Int) + 1),AI bad]) (x:=AI ((↑p:Int) + 1)) hb (by kernel_rfl) hf rfl), .b 5 0 (bneUL 40 rfl (show ¬gb s p=40 from (by simp_all;done))), .b 10 0 (bneUL 46 rfl (show ¬gb s p=46 from (by simp_all;done))), .b 12 0 (bneUL 94 rfl (show ¬gb s p=94 from (by simp_all;done))), .b 14 0 (bneUL 36 rfl (show ¬gb s p=36 from (by simp_all;done))), .b 16 0 (beqUL 92 rfl hc), .b 19 1 (bneUL 91 rfl (show ¬gb s p=91 from (by simp_all;done))), .c 21 1 e2, .b 21 4 hok] (by kernel_rfl) (tlK (by kernel_rfl) rfl) rfl,by assumption,(FrE.set (List.mem_singleton.2 rfl)).trans (by assumption)⟩
theorem at_esc0 {a:W4 × Bool × Nat} {m:Int} {fl rb p:Nat} {hp:List Blk} {s:List UInt8} {bad:Int} (hb:blkCells hp rb=some (rdB s p bad)) (hp1:p < s.length) (hc:gb s p=92) (ha:escF s (p + 1) bad=a) (hok:a.2.1=false) (hbad:bad < 0) (hf:fl≤rb) (hl:s.length≤256):∃ hp',evI (cfg m) fl 60 [.ptr rb 0] hp=some (emptyAV,hp')∧blkCells hp' rb=some (rdB s a.2.2 p)∧FrE [rb] hp hp':=by
 obtain ⟨hp'1,e2,h3,h4⟩:=(esc_a (m:=m) (hp:=setAt hp rb (BC [AV.str s,AI ((↑p:Int) + 1),AI bad])) (bad:=bad) (blk_set (blk_lt hb)) ha hf hl)
 obtain ⟨hp'5,e6,h7,h8⟩:=(wrong_b (m:=m) (bad:=bad) (w:=(↑p:Int)) h3 hbad hf)
 exact ⟨hp'5,evX (AV.agg [AI 0,AW 0,AW 0,AW 0,AW 0,AI 0,AI 0,AV.nilS]) (hp'5) [.m 1 4 (load_ok (C:=cfg m) (t:=3) (off:=1) (x:=AI p) hb (by kernel_rfl)), .m 2 4 (load_ok (C:=cfg m) (t:=9) (off:=0) (x:=AV.str s) hb (by kernel_rfl)), .v 2 6 (index_gb (C:=cfg m) (t:=9) (s:=s) (n:=(↑p:Int)) (by kernel_rfl) (by omega) (by omega)), .m 3 4 (load_ok (C:=cfg m) (t:=3) (off:=1) (x:=AI p) hb (by kernel_rfl)), .w 3 5 IntKind.i64 ((↑p:Int) + 1) (wrap_i64' (by omega)), .t 3 9 (store_ok (C:=cfg m) (t:=3) (off:=1) (hp':=setAt hp rb (BC [AV.str s,AI ((↑p:Int) + 1),AI bad])) (cs':=[AV.str s,AI ((↑p:Int) + 1),AI bad]) (x:=AI ((↑p:Int) + 1)) hb (by kernel_rfl) hf rfl), .b 5 0 (bneUL 40 rfl (show ¬gb s p=40 from (by simp_all;done))), .b 10 0 (bneUL 46 rfl (show ¬gb s p=46 from (by simp_all;done))), .b 12 0 (bneUL 94 rfl (show ¬gb s p=94 from (by simp_all;done))), .b 14 0 (bneUL 36 rfl (show ¬gb s p=36 from (by simp_all;done))), .b 16 0 (beqUL 92 rfl hc), .b 19 1 (bneUL 91 rfl (show ¬gb s p=91 from (by simp_all;done))), .c 21 1 e2, .b 21 4 hok, .c 23 4 e6] (by kernel_rfl) (tlK (by kernel_rfl) rfl) rfl,by assumption,((FrE.set (List.mem_singleton.2 rfl)).trans (by assumption)).trans (by assumption)⟩
theorem at_cls1 {a:W4 × Bool × Nat} {m:Int} {fl rb p:Nat} {hp:List Blk} {s:List UInt8} {bad:Int} (hb:blkCells hp rb=some (rdB s p bad)) (hp1:p < s.length) (hc:gb s p=91) (ha:classF s (p + 1) bad=a) (hok:a.2.1=true) (hf:fl≤rb) (hl:s.length≤256):∃ hp',evI (cfg m) fl 60 [.ptr rb 0] hp=some (nAV (.one a.1) .nilS,hp')∧blkCells hp' rb=some (rdB s a.2.2 bad)∧FrE [rb] hp hp':=by
 obtain ⟨hp'1,e2,h3,h4⟩:=(cls_a (m:=m) (hp:=setAt hp rb (BC [AV.str s,AI ((↑p:Int) + 1),AI bad])) (bad:=bad) (blk_set (blk_lt hb)) ha hf hl)
 exact ⟨hp'1,evX (AV.agg [AI 1,AW a.fst.a.toNat,AW a.fst.b.toNat,AW a.fst.c.toNat,AW a.fst.d.toNat,AI 0,AI 0,AV.nilS]) (hp'1) [.m 1 4 (load_ok (C:=cfg m) (t:=3) (off:=1) (x:=AI p) hb (by kernel_rfl)), .m 2 4 (load_ok (C:=cfg m) (t:=9) (off:=0) (x:=AV.str s) hb (by kernel_rfl)), .v 2 6 (index_gb (C:=cfg m) (t:=9) (s:=s) (n:=(↑p:Int)) (by kernel_rfl) (by omega) (by omega)), .m 3 4 (load_ok (C:=cfg m) (t:=3) (off:=1) (x:=AI p) hb (by kernel_rfl)), .w 3 5 IntKind.i64 ((↑p:Int) + 1) (wrap_i64' (by omega)), .t 3 9 (store_ok (C:=cfg m) (t:=3) (off:=1) (hp':=setAt hp rb (BC [AV.str s,AI ((↑p:Int) + 1),AI bad])) (cs':=[AV.str s,AI ((↑p:Int) + 1),AI bad]) (x:=AI ((↑p:Int) + 1)) hb (by kernel_rfl) hf rfl), .b 5 0 (bneUL 40 rfl (show ¬gb s p=40 from (by simp_all;done))), .b 10 0 (bneUL 46 rfl (show ¬gb s p=46 from (by simp_all;done))), .b 12 0 (bneUL 94 rfl (show ¬gb s p=94 from (by simp_all;done))), .b 14 0 (bneUL 36 rfl (show ¬gb s p=36 from (by simp_all;done))), .b 16 0 (bneUL 92 rfl (show ¬gb s p=92 from (by simp_all;done))), .b 17 0 (beqUL 91 rfl hc), .b 19 1 (beqUL 91 rfl hc), .c 21 1 e2, .b 21 4 hok] (by kernel_rfl) (tlK (by kernel_rfl) rfl) rfl,by assumption,(FrE.set (List.mem_singleton.2 rfl)).trans (by assumption)⟩
theorem at_cls0 {a:W4 × Bool × Nat} {m:Int} {fl rb p:Nat} {hp:List Blk} {s:List UInt8} {bad:Int} (hb:blkCells hp rb=some (rdB s p bad)) (hp1:p < s.length) (hc:gb s p=91) (ha:classF s (p + 1) bad=a) (hok:a.2.1=false) (hbad:bad < 0) (hf:fl≤rb) (hl:s.length≤256):∃ hp',evI (cfg m) fl 60 [.ptr rb 0] hp=some (emptyAV,hp')∧blkCells hp' rb=some (rdB s a.2.2 p)∧FrE [rb] hp hp':=by
 obtain ⟨hp'1,e2,h3,h4⟩:=(cls_a (m:=m) (hp:=setAt hp rb (BC [AV.str s,AI ((↑p:Int) + 1),AI bad])) (bad:=bad) (blk_set (blk_lt hb)) ha hf hl)
 obtain ⟨hp'5,e6,h7,h8⟩:=(wrong_b (m:=m) (bad:=bad) (w:=(↑p:Int)) h3 hbad hf)
 exact ⟨hp'5,evX (AV.agg [AI 0,AW 0,AW 0,AW 0,AW 0,AI 0,AI 0,AV.nilS]) (hp'5) [.m 1 4 (load_ok (C:=cfg m) (t:=3) (off:=1) (x:=AI p) hb (by kernel_rfl)), .m 2 4 (load_ok (C:=cfg m) (t:=9) (off:=0) (x:=AV.str s) hb (by kernel_rfl)), .v 2 6 (index_gb (C:=cfg m) (t:=9) (s:=s) (n:=(↑p:Int)) (by kernel_rfl) (by omega) (by omega)), .m 3 4 (load_ok (C:=cfg m) (t:=3) (off:=1) (x:=AI p) hb (by kernel_rfl)), .w 3 5 IntKind.i64 ((↑p:Int) + 1) (wrap_i64' (by omega)), .t 3 9 (store_ok (C:=cfg m) (t:=3) (off:=1) (hp':=setAt hp rb (BC [AV.str s,AI ((↑p:Int) + 1),AI bad])) (cs':=[AV.str s,AI ((↑p:Int) + 1),AI bad]) (x:=AI ((↑p:Int) + 1)) hb (by kernel_rfl) hf rfl), .b 5 0 (bneUL 40 rfl (show ¬gb s p=40 from (by simp_all;done))), .b 10 0 (bneUL 46 rfl (show ¬gb s p=46 from (by simp_all;done))), .b 12 0 (bneUL 94 rfl (show ¬gb s p=94 from (by simp_all;done))), .b 14 0 (bneUL 36 rfl (show ¬gb s p=36 from (by simp_all;done))), .b 16 0 (bneUL 92 rfl (show ¬gb s p=92 from (by simp_all;done))), .b 17 0 (beqUL 91 rfl hc), .b 19 1 (beqUL 91 rfl hc), .c 21 1 e2, .b 21 4 hok, .c 23 4 e6] (by kernel_rfl) (tlK (by kernel_rfl) rfl) rfl,by assumption,((FrE.set (List.mem_singleton.2 rfl)).trans (by assumption)).trans (by assumption)⟩
theorem at_spec {m:Int} {fl rb p:Nat} {hp:List Blk} {s:List UInt8} {bad:Int} (hb:blkCells hp rb=some (rdB s p bad)) (hp1:p < s.length) (k0:¬ gb s p=40) (k1:¬ gb s p=46) (k2:¬ gb s p=94) (k3:¬ gb s p=36) (k4:¬ gb s p=92) (k5:¬ gb s p=91) (hs:ixB (gb s p).toNat [92,46,91,93,40,41,42,43,63,123,125,124,94,36] 0≥0) (hbad:bad < 0) (hf:fl≤rb) (hl:s.length≤256):∃ hp',evI (cfg m) fl 60 [.ptr rb 0] hp=some (emptyAV,hp')∧blkCells hp' rb=some (rdB s (p + 1) p)∧FrE [rb] hp hp':=by
 obtain ⟨hp'1,e2,h3,h4⟩:=(wrong_b (m:=m) (p:=p + 1) (hp:=setAt hp rb (BC [AV.str s,AI ((↑p:Int) + 1),AI bad])) (s:=s) (bad:=bad) (w:=(↑p:Int)) (blk_set (blk_lt hb)) hbad hf)
 exact ⟨hp'1,evX (AV.agg [AI 0,AW 0,AW 0,AW 0,AW 0,AI 0,AI 0,AV.nilS]) (hp'1) [.m 1 4 (load_ok (C:=cfg m) (t:=3) (off:=1) (x:=AI p) hb (by kernel_rfl)), .m 2 4 (load_ok (C:=cfg m) (t:=9) (off:=0) (x:=AV.str s) hb (by kernel_rfl)), .v 2 6 (index_gb (C:=cfg m) (t:=9) (s:=s) (n:=(↑p:Int)) (by kernel_rfl) (by omega) (by omega)), .m 3 4 (load_ok (C:=cfg m) (t:=3) (off:=1) (x:=AI p) hb (by kernel_rfl)), .w 3 5 IntKind.i64 ((↑p:Int) + 1) (wrap_i64' (by omega)), .t 3 9 (store_ok (C:=cfg m) (t:=3) (off:=1) (hp':=setAt hp rb (BC [AV.str s,AI ((↑p:Int) + 1),AI bad])) (cs':=[AV.str s,AI ((↑p:Int) + 1),AI bad]) (x:=AI ((↑p:Int) + 1)) hb (by kernel_rfl) hf rfl), .b 5 0 (bneUL 40 rfl k0), .b 10 0 (bneUL 46 rfl k1), .b 12 0 (bneUL 94 rfl k2), .b 14 0 (bneUL 36 rfl k3), .b 16 0 (bneUL 92 rfl k4), .b 17 0 (bneUL 91 rfl k5), .c 25 1 (ix49 (m:=m) (fl:=fl) (hp:=setAt hp rb (BC [AV.str s,AI ((↑p:Int) + 1),AI bad])) (s:=[92,46,91,93,40,41,42,43,63,123,125,124,94,36]) (c:=gb s p)), .b 25 2 (decide_eq_true (hs)), .c 26 4 e2] (by kernel_rfl) (tlK (by kernel_rfl) rfl) rfl,by assumption,(FrE.set (List.mem_singleton.2 rfl)).trans (by assumption)⟩
theorem at_lit {m:Int} {fl rb p:Nat} {hp:List Blk} {s:List UInt8} {bad:Int} (hb:blkCells hp rb=some (rdB s p bad)) (hp1:p < s.length) (k0:¬ gb s p=40) (k1:¬ gb s p=46) (k2:¬ gb s p=94) (k3:¬ gb s p=36) (k4:¬ gb s p=92) (k5:¬ gb s p=91) (hs:¬ ixB (gb s p).toNat [92,46,91,93,40,41,42,43,63,123,125,124,94,36] 0≥0) (hf:fl≤rb) (hl:s.length≤256):∃ hp',evI (cfg m) fl 60 [.ptr rb 0] hp=some (nAV (.one (W4.zero.with (gb s p) (gb s p))) .nilS,hp')∧blkCells hp' rb=some (rdB s (p + 1) bad)∧FrE [rb] hp hp':=by
 exact ⟨setAt hp rb (BC [AV.str s,AI ((↑p:Int) + 1),AI bad]),evX (AV.agg [AI 1,AW (↑(W4.zero.with (gb s p) (gb s p)).a.toNat:Int),AW (↑(W4.zero.with (gb s p) (gb s p)).b.toNat:Int),AW (↑(W4.zero.with (gb s p) (gb s p)).c.toNat:Int),AW (↑(W4.zero.with (gb s p) (gb s p)).d.toNat:Int),AI 0,AI 0,AV.nilS]) (setAt hp rb (BC [AV.str s,AI ((↑p:Int) + 1),AI bad])) [.m 1 4 (load_ok (C:=cfg m) (t:=3) (off:=1) (x:=AI p) hb (by kernel_rfl)), .m 2 4 (load_ok (C:=cfg m) (t:=9) (off:=0) (x:=AV.str s) hb (by kernel_rfl)), .v 2 6 (index_gb (C:=cfg m) (t:=9) (s:=s) (n:=(↑p:Int)) (by kernel_rfl) (by omega) (by omega)), .m 3 4 (load_ok (C:=cfg m) (t:=3) (off:=1) (x:=AI p) hb (by kernel_rfl)), .w 3 5 IntKind.i64 ((↑p:Int) + 1) (wrap_i64' (by omega)), .t 3 9 (store_ok (C:=cfg m) (t:=3) (off:=1) (hp':=setAt hp rb (BC [AV.str s,AI ((↑p:Int) + 1),AI bad])) (cs':=[AV.str s,AI ((↑p:Int) + 1),AI bad]) (x:=AI ((↑p:Int) + 1)) hb (by kernel_rfl) hf rfl), .b 5 0 (bneUL 40 rfl k0), .b 10 0 (bneUL 46 rfl k1), .b 12 0 (bneUL 94 rfl k2), .b 14 0 (bneUL 36 rfl k3), .b 16 0 (bneUL 92 rfl k4), .b 17 0 (bneUL 91 rfl k5), .c 25 1 (ix49 (m:=m) (fl:=fl) (hp:=setAt hp rb (BC [AV.str s,AI ((↑p:Int) + 1),AI bad])) (s:=[92,46,91,93,40,41,42,43,63,123,125,124,94,36]) (c:=gb s p)), .b 25 2 (decide_eq_false (hs)), .c 27 4 (set1 (m:=m) (fl:=fl) (hp:=setAt hp rb (BC [AV.str s,AI ((↑p:Int) + 1),AI bad])) (a:=gb s p) (b:=gb s p))] (by kernel_rfl) (tlK (by kernel_rfl) rfl) rfl,blk_set (blk_lt hb),FrE.set (List.mem_singleton.2 rfl)⟩
theorem eat41 {m:Int} {fl rb p:Nat} {hp:List Blk} {s:List UInt8} {bad:Int} (hb:blkCells hp rb=some (rdB s p bad)) (hf:fl≤rb) (hl:s.length≤256):∃ hp',evI (cfg m) fl 42 [.ptr rb 0, .int .u8 41] hp=some (.bool (decide ((bad < 0∧p < s.length)∧gb s p=41)),hp')∧blkCells hp' rb=some (rdB s (eatP s p bad 41) bad)∧FrE [rb] hp hp':=eat_ok (c:=41) hb hf hl
theorem at_grp1 {m:Int} {fl rb p q:Nat} {hp hp1:List Blk} {s:List UInt8} {bad bad1:Int} {n:Node} {ks:AV} (hb:blkCells hp rb=some (rdB s p bad)) (hp1':p < s.length) (hc:gb s p=40) (ih:evI (cfg m) fl 27 [.ptr rb 0] (setAt hp rb (.cells [.str s, .int .i64 ((p:Int) + 1), .int .i64 bad]))=some (nAV n ks,hp1)) (hb1:blkCells hp1 rb=some (rdB s q bad1)) (hfr:FrE [rb] (setAt hp rb (.cells [.str s, .int .i64 ((p:Int) + 1), .int .i64 bad])) hp1) (he:(bad1 < 0∧q < s.length)∧gb s q=41) (hf:fl≤rb) (hl:s.length≤256):∃ hp',evI (cfg m) fl 60 [.ptr rb 0] hp=some (nAV n ks,hp')∧blkCells hp' rb=some (rdB s (eatP s q bad1 41) bad1)∧FrE [rb] hp hp':=by
 obtain ⟨hp'1,e2,h3,h4⟩:=(eat41 (m:=m) (bad:=bad1) hb1 hf hl)
 exact ⟨hp'1,evX (AV.agg [AI n.kind,AW n.set.a.toNat,AW n.set.b.toNat,AW n.set.c.toNat,AW n.set.d.toNat,AI n.mn,AI n.mx,ks]) (hp'1) [.m 1 4 (load_ok (C:=cfg m) (t:=3) (off:=1) (x:=AI p) hb (by kernel_rfl)), .m 2 4 (load_ok (C:=cfg m) (t:=9) (off:=0) (x:=AV.str s) hb (by kernel_rfl)), .v 2 6 (index_gb (C:=cfg m) (t:=9) (s:=s) (n:=(↑p:Int)) (by kernel_rfl) (by omega) (by omega)), .m 3 4 (load_ok (C:=cfg m) (t:=3) (off:=1) (x:=AI p) hb (by kernel_rfl)), .w 3 5 IntKind.i64 ((↑p:Int) + 1) (wrap_i64' (by omega)), .t 3 9 (store_ok (C:=cfg m) (t:=3) (off:=1) (hp':=setAt hp rb (BC [AV.str s,AI ((↑p:Int) + 1),AI bad])) (cs':=[AV.str s,AI ((↑p:Int) + 1),AI bad]) (x:=AI ((↑p:Int) + 1)) hb (by kernel_rfl) hf rfl), .b 5 0 (beqUL 40 rfl hc), .c 6 1 ih, .cb 7 3 e2 (decide_eq_true (he))] (by kernel_rfl) (tlK (by kernel_rfl) rfl) rfl,by assumption,((FrE.set (List.mem_singleton.2 rfl)).trans (by assumption)).trans (by assumption)⟩
theorem at_grp0 {m:Int} {fl rb p q:Nat} {hp hp1:List Blk} {s:List UInt8} {bad bad1:Int} {n:Node} {ks:AV} (hb:blkCells hp rb=some (rdB s p bad)) (hp1':p < s.length) (hc:gb s p=40) (ih:evI (cfg m) fl 27 [.ptr rb 0] (setAt hp rb (.cells [.str s, .int .i64 ((p:Int) + 1), .int .i64 bad]))=some (nAV n ks,hp1)) (hb1:blkCells hp1 rb=some (rdB s q bad1)) (hfr:FrE [rb] (setAt hp rb (.cells [.str s, .int .i64 ((p:Int) + 1), .int .i64 bad])) hp1) (he:¬ ((bad1 < 0∧q < s.length)∧gb s q=41)) (hf:fl≤rb) (hl:s.length≤256):∃ hp',evI (cfg m) fl 60 [.ptr rb 0] hp=some (emptyAV,hp')∧blkCells hp' rb=some (rdB s (eatP s q bad1 41) (if bad1 < 0 then (s.length:Int) else bad1))∧FrE [rb] hp hp':=by
 obtain ⟨hp'1,e2,h3,h4⟩:=(eat41 (m:=m) (bad:=bad1) hb1 hf hl)
 obtain ⟨hp'5,e6,h7,h8⟩:=(wrong_ok (m:=m) (bad:=bad1) (w:=(↑s.length:Int)) h3 hf)
 exact ⟨hp'5,evX (AV.agg [AI 0,AW 0,AW 0,AW 0,AW 0,AI 0,AI 0,AV.nilS]) (hp'5) [.m 1 4 (load_ok (C:=cfg m) (t:=3) (off:=1) (x:=AI p) hb (by kernel_rfl)), .m 2 4 (load_ok (C:=cfg m) (t:=9) (off:=0) (x:=AV.str s) hb (by kernel_rfl)), .v 2 6 (index_gb (C:=cfg m) (t:=9) (s:=s) (n:=(↑p:Int)) (by kernel_rfl) (by omega) (by omega)), .m 3 4 (load_ok (C:=cfg m) (t:=3) (off:=1) (x:=AI p) hb (by kernel_rfl)), .w 3 5 IntKind.i64 ((↑p:Int) + 1) (wrap_i64' (by omega)), .t 3 9 (store_ok (C:=cfg m) (t:=3) (off:=1) (hp':=setAt hp rb (BC [AV.str s,AI ((↑p:Int) + 1),AI bad])) (cs':=[AV.str s,AI ((↑p:Int) + 1),AI bad]) (x:=AI ((↑p:Int) + 1)) hb (by kernel_rfl) hf rfl), .b 5 0 (beqUL 40 rfl hc), .c 6 1 ih, .cb 7 3 e2 (decide_eq_false (he)), .m 8 7 (load_ok (C:=cfg m) (t:=9) (off:=0) (x:=AV.str s) h3 (by kernel_rfl)), .c 8 9 e6] (by kernel_rfl) (tlK (by kernel_rfl) rfl) rfl,by assumption,(((FrE.set (List.mem_singleton.2 rfl)).trans hfr).trans (by assumption)).trans (by assumption)⟩
theorem eat42 {m:Int} {fl rb p:Nat} {hp:List Blk} {s:List UInt8} {bad:Int} (hb:blkCells hp rb=some (rdB s p bad)) (hf:fl≤rb) (hl:s.length≤256):∃ hp',evI (cfg m) fl 42 [.ptr rb 0, .int .u8 42] hp=some (.bool (decide ((bad < 0∧p < s.length)∧gb s p=42)),hp')∧blkCells hp' rb=some (rdB s (eatP s p bad 42) bad)∧FrE [rb] hp hp':=eat_ok (c:=42) hb hf hl
theorem eat43 {m:Int} {fl rb p:Nat} {hp:List Blk} {s:List UInt8} {bad:Int} (hb:blkCells hp rb=some (rdB s p bad)) (hf:fl≤rb) (hl:s.length≤256):∃ hp',evI (cfg m) fl 42 [.ptr rb 0, .int .u8 43] hp=some (.bool (decide ((bad < 0∧p < s.length)∧gb s p=43)),hp')∧blkCells hp' rb=some (rdB s (eatP s p bad 43) bad)∧FrE [rb] hp hp':=eat_ok (c:=43) hb hf hl
theorem eat63 {m:Int} {fl rb p:Nat} {hp:List Blk} {s:List UInt8} {bad:Int} (hb:blkCells hp rb=some (rdB s p bad)) (hf:fl≤rb) (hl:s.length≤256):∃ hp',evI (cfg m) fl 42 [.ptr rb 0, .int .u8 63] hp=some (.bool (decide ((bad < 0∧p < s.length)∧gb s p=63)),hp')∧blkCells hp' rb=some (rdB s (eatP s p bad 63) bad)∧FrE [rb] hp hp':=eat_ok (c:=63) hb hf hl
theorem eat123 {m:Int} {fl rb p:Nat} {hp:List Blk} {s:List UInt8} {bad:Int} (hb:blkCells hp rb=some (rdB s p bad)) (hf:fl≤rb) (hl:s.length≤256):∃ hp',evI (cfg m) fl 42 [.ptr rb 0, .int .u8 123] hp=some (.bool (decide ((bad < 0∧p < s.length)∧gb s p=123)),hp')∧blkCells hp' rb=some (rdB s (eatP s p bad 123) bad)∧FrE [rb] hp hp':=eat_ok (c:=123) hb hf hl
theorem eat124 {m:Int} {fl rb p:Nat} {hp:List Blk} {s:List UInt8} {bad:Int} (hb:blkCells hp rb=some (rdB s p bad)) (hf:fl≤rb) (hl:s.length≤256):∃ hp',evI (cfg m) fl 42 [.ptr rb 0, .int .u8 124] hp=some (.bool (decide ((bad < 0∧p < s.length)∧gb s p=124)),hp')∧blkCells hp' rb=some (rdB s (eatP s p bad 124) bad)∧FrE [rb] hp hp':=eat_ok (c:=124) hb hf hl
theorem eat125 {m:Int} {fl rb p:Nat} {hp:List Blk} {s:List UInt8} {bad:Int} (hb:blkCells hp rb=some (rdB s p bad)) (hf:fl≤rb) (hl:s.length≤256):∃ hp',evI (cfg m) fl 42 [.ptr rb 0, .int .u8 125] hp=some (.bool (decide ((bad < 0∧p < s.length)∧gb s p=125)),hp')∧blkCells hp' rb=some (rdB s (eatP s p bad 125) bad)∧FrE [rb] hp hp':=eat_ok (c:=125) hb hf hl
theorem eat44 {m:Int} {fl rb p:Nat} {hp:List Blk} {s:List UInt8} {bad:Int} (hb:blkCells hp rb=some (rdB s p bad)) (hf:fl≤rb) (hl:s.length≤256):∃ hp',evI (cfg m) fl 42 [.ptr rb 0, .int .u8 44] hp=some (.bool (decide ((bad < 0∧p < s.length)∧gb s p=44)),hp')∧blkCells hp' rb=some (rdB s (eatP s p bad 44) bad)∧FrE [rb] hp hp':=eat_ok (c:=44) hb hf hl
theorem pc_42 {m:Int} {fl rb q:Nat} {hp hp1:List Blk} {s:List UInt8} {bad1:Int} {n:Node} {ks:AV} (ha:evI (cfg m) fl 60 [.ptr rb 0] hp=some (nAV n ks,hp1)) (hb1:blkCells hp1 rb=some (rdB s q bad1)) (hfr:FrE [rb] hp hp1)  (he:(bad1 < 0∧q < s.length)∧gb s q=42) (hf:fl≤rb) (hl:s.length≤256):∃ hp',evI (cfg m) fl 44 [.ptr rb 0] hp=some (nAV (.mk 6 W4.zero 0 (-1) []) (.lit 8 .exact [nAV n ks]),hp')∧blkCells hp' rb=some (rdB s (eatP s q bad1 42) bad1)∧FrE [rb] hp hp':=by
 obtain ⟨hp'1,e2,h3,h4⟩:=(eat42 (m:=m) (bad:=bad1) hb1 hf hl)
 exact ⟨hp'1,evX (AV.agg [AI 6,AW 0,AW 0,AW 0,AW 0,AI 0,AI (-1),AV.lit 8 Own.exact [AV.agg [AI n.kind,AW n.set.a.toNat,AW n.set.b.toNat,AW n.set.c.toNat,AW n.set.d.toNat,AI n.mn,AI n.mx,ks]]]) (hp'1) [.c 1 1 ha, .m 2 4 (load_ok (C:=cfg m) (t:=3) (off:=1) (x:=AI q) hb1 (by kernel_rfl)), .cb 5 3 e2 (decide_eq_true (he))] (by kernel_rfl) (tlK (by kernel_rfl) rfl) rfl,by assumption,by first | exact FrE.trans (hfr) (by assumption)⟩
theorem pc_43 {m:Int} {fl rb q:Nat} {hp hp1:List Blk} {s:List UInt8} {bad1:Int} {n:Node} {ks:AV} (ha:evI (cfg m) fl 60 [.ptr rb 0] hp=some (nAV n ks,hp1)) (hb1:blkCells hp1 rb=some (rdB s q bad1)) (hfr:FrE [rb] hp hp1) (x0:¬ ((bad1 < 0∧q < s.length)∧gb s q=42)) (he:(bad1 < 0∧(eatP s q bad1 42) < s.length)∧gb s (eatP s q bad1 42)=43) (hf:fl≤rb) (hl:s.length≤256):∃ hp',evI (cfg m) fl 44 [.ptr rb 0] hp=some (nAV (.mk 6 W4.zero 1 (-1) []) (.lit 8 .exact [nAV n ks]),hp')∧blkCells hp' rb=some (rdB s (eatP s (eatP s q bad1 42) bad1 43) bad1)∧FrE [rb] hp hp':=by
 obtain ⟨hp'1,e2,h3,h4⟩:=(eat42 (m:=m) (bad:=bad1) hb1 hf hl)
 obtain ⟨hp'5,e6,h7,h8⟩:=(eat43 (m:=m) (bad:=bad1) h3 hf hl)
 exact ⟨hp'5,evX (AV.agg [AI 6,AW 0,AW 0,AW 0,AW 0,AI 1,AI (-1),AV.lit 8 Own.exact [AV.agg [AI n.kind,AW n.set.a.toNat,AW n.set.b.toNat,AW n.set.c.toNat,AW n.set.d.toNat,AI n.mn,AI n.mx,ks]]]) (hp'5) [.c 1 1 ha, .m 2 4 (load_ok (C:=cfg m) (t:=3) (off:=1) (x:=AI q) hb1 (by kernel_rfl)), .cb 5 3 e2 (decide_eq_false (x0)), .cb 6 3 e6 (decide_eq_true (he))] (by kernel_rfl) (tlK (by kernel_rfl) rfl) rfl,by assumption,by first | exact FrE.trans (FrE.trans (hfr) (by assumption)) (by assumption)⟩
theorem pc_63 {m:Int} {fl rb q:Nat} {hp hp1:List Blk} {s:List UInt8} {bad1:Int} {n:Node} {ks:AV} (ha:evI (cfg m) fl 60 [.ptr rb 0] hp=some (nAV n ks,hp1)) (hb1:blkCells hp1 rb=some (rdB s q bad1)) (hfr:FrE [rb] hp hp1) (x0:¬ ((bad1 < 0∧q < s.length)∧gb s q=42)) (x1:¬ ((bad1 < 0∧(eatP s q bad1 42) < s.length)∧gb s (eatP s q bad1 42)=43)) (he:(bad1 < 0∧(eatP s (eatP s q bad1 42) bad1 43) < s.length)∧gb s (eatP s (eatP s q bad1 42) bad1 43)=63) (hf:fl≤rb) (hl:s.length≤256):∃ hp',evI (cfg m) fl 44 [.ptr rb 0] hp=some (nAV (.mk 6 W4.zero 0 (1) []) (.lit 8 .exact [nAV n ks]),hp')∧blkCells hp' rb=some (rdB s (eatP s (eatP s (eatP s q bad1 42) bad1 43) bad1 63) bad1)∧FrE [rb] hp hp':=by
 obtain ⟨hp'1,e2,h3,h4⟩:=(eat42 (m:=m) (bad:=bad1) hb1 hf hl)
 obtain ⟨hp'5,e6,h7,h8⟩:=(eat43 (m:=m) (bad:=bad1) h3 hf hl)
 obtain ⟨hp'9,e10,h11,h12⟩:=(eat63 (m:=m) (bad:=bad1) h7 hf hl)
 exact ⟨hp'9,evX (AV.agg [AI 6,AW 0,AW 0,AW 0,AW 0,AI 0,AI 1,AV.lit 8 Own.exact [AV.agg [AI n.kind,AW n.set.a.toNat,AW n.set.b.toNat,AW n.set.c.toNat,AW n.set.d.toNat,AI n.mn,AI n.mx,ks]]]) (hp'9) [.c 1 1 ha, .m 2 4 (load_ok (C:=cfg m) (t:=3) (off:=1) (x:=AI q) hb1 (by kernel_rfl)), .cb 5 3 e2 (decide_eq_false (x0)), .cb 6 3 e6 (decide_eq_false (x1)), .cb 8 3 e10 (decide_eq_true (he))] (by kernel_rfl) (tlK (by kernel_rfl) rfl) rfl,by assumption,by first | exact FrE.trans (FrE.trans (FrE.trans (hfr) (by assumption)) (by assumption)) (by assumption)⟩
theorem pc_no {m:Int} {fl rb q:Nat} {hp hp1:List Blk} {s:List UInt8} {bad1:Int} {n:Node} {ks:AV} (ha:evI (cfg m) fl 60 [.ptr rb 0] hp=some (nAV n ks,hp1)) (hb1:blkCells hp1 rb=some (rdB s q bad1)) (hfr:FrE [rb] hp hp1) (x0:¬ ((bad1 < 0∧q < s.length)∧gb s q=42)) (x1:¬ ((bad1 < 0∧(eatP s q bad1 42) < s.length)∧gb s (eatP s q bad1 42)=43)) (x2:¬ ((bad1 < 0∧(eatP s (eatP s q bad1 42) bad1 43) < s.length)∧gb s (eatP s (eatP s q bad1 42) bad1 43)=63)) (x3:¬ ((bad1 < 0∧(eatP s (eatP s (eatP s q bad1 42) bad1 43) bad1 63) < s.length)∧gb s (eatP s (eatP s (eatP s q bad1 42) bad1 43) bad1 63)=123)) (hf:fl≤rb) (hl:s.length≤256):∃ hp',evI (cfg m) fl 44 [.ptr rb 0] hp=some (nAV n ks,hp')∧blkCells hp' rb=some (rdB s (eatP s (eatP s (eatP s (eatP s q bad1 42) bad1 43) bad1 63) bad1 123) bad1)∧FrE [rb] hp hp':=by
 obtain ⟨hp'1,e2,h3,h4⟩:=(eat42 (m:=m) (bad:=bad1) hb1 hf hl)
 obtain ⟨hp'5,e6,h7,h8⟩:=(eat43 (m:=m) (bad:=bad1) h3 hf hl)
 obtain ⟨hp'9,e10,h11,h12⟩:=(eat63 (m:=m) (bad:=bad1) h7 hf hl)
 obtain ⟨hp'13,e14,h15,h16⟩:=(eat123 (m:=m) (bad:=bad1) h11 hf hl)
 exact ⟨hp'13,evX (AV.agg [AI n.kind,AW n.set.a.toNat,AW n.set.b.toNat,AW n.set.c.toNat,AW n.set.d.toNat,AI n.mn,AI n.mx,ks]) (hp'13) [.c 1 1 ha, .m 2 4 (load_ok (C:=cfg m) (t:=3) (off:=1) (x:=AI q) hb1 (by kernel_rfl)), .cb 5 3 e2 (decide_eq_false (x0)), .cb 6 3 e6 (decide_eq_false (x1)), .cb 8 3 e10 (decide_eq_false (x2)), .cb 10 3 e14 (decide_eq_false (x3))] (by kernel_rfl) (tlK (by kernel_rfl) rfl) rfl,by assumption,by first | exact FrE.trans (FrE.trans (FrE.trans (FrE.trans (hfr) (by assumption)) (by assumption)) (by assumption)) (by assumption)⟩
theorem pc_br1 {m:Int} {fl rb q:Nat} {hp hp1:List Blk} {s:List UInt8} {bad1:Int} {n:Node} {ks:AV} {lo hi:Int} {ok:Bool} {q2:Nat} (ha:evI (cfg m) fl 60 [.ptr rb 0] hp=some (nAV n ks,hp1)) (hb1:blkCells hp1 rb=some (rdB s q bad1)) (hfr:FrE [rb] hp hp1) (x0:¬ ((bad1 < 0∧q < s.length)∧gb s q=42)) (x1:¬ ((bad1 < 0∧(eatP s q bad1 42) < s.length)∧gb s (eatP s q bad1 42)=43)) (x2:¬ ((bad1 < 0∧(eatP s (eatP s q bad1 42) bad1 43) < s.length)∧gb s (eatP s (eatP s q bad1 42) bad1 43)=63)) (he:(bad1 < 0∧(eatP s (eatP s (eatP s q bad1 42) bad1 43) bad1 63) < s.length)∧gb s (eatP s (eatP s (eatP s q bad1 42) bad1 43) bad1 63)=123) (hbr:∀ h,blkCells h rb=some (rdB s (eatP s (eatP s (eatP s (eatP s q bad1 42) bad1 43) bad1 63) bad1 123) bad1)→∃ h',evI (cfg m) fl 61 [.ptr rb 0] h=some (.tup [.int .i64 lo, .int .i64 hi, .bool ok],h')∧blkCells h' rb=some (rdB s q2 bad1)∧FrE [rb] h h') (hok:ok=true) (hf:fl≤rb) (hl:s.length≤256):∃ hp',evI (cfg m) fl 44 [.ptr rb 0] hp=some (nAV (.mk 6 W4.zero lo hi []) (.lit 8 .exact [nAV n ks]),hp')∧blkCells hp' rb=some (rdB s q2 bad1)∧FrE [rb] hp hp':=by
 obtain ⟨hp'1,e2,h3,h4⟩:=(eat42 (m:=m) (bad:=bad1) hb1 hf hl)
 obtain ⟨hp'5,e6,h7,h8⟩:=(eat43 (m:=m) (bad:=bad1) h3 hf hl)
 obtain ⟨hp'9,e10,h11,h12⟩:=(eat63 (m:=m) (bad:=bad1) h7 hf hl)
 obtain ⟨hp'13,e14,h15,h16⟩:=(eat123 (m:=m) (bad:=bad1) h11 hf hl)
 obtain ⟨h'17,e18,h19,h20⟩:=(hbr _ h15)
 exact ⟨h'17,evX (AV.agg [AI 6,AW 0,AW 0,AW 0,AW 0,AI lo,AI hi,AV.lit 8 Own.exact [AV.agg [AI n.kind,AW n.set.a.toNat,AW n.set.b.toNat,AW n.set.c.toNat,AW n.set.d.toNat,AI n.mn,AI n.mx,ks]]]) (h'17) [.c 1 1 ha, .m 2 4 (load_ok (C:=cfg m) (t:=3) (off:=1) (x:=AI q) hb1 (by kernel_rfl)), .cb 5 3 e2 (decide_eq_false (x0)), .cb 6 3 e6 (decide_eq_false (x1)), .cb 8 3 e10 (decide_eq_false (x2)), .cb 10 3 e14 (decide_eq_true (he)), .c 11 1 e18, .b 11 5 hok] (by kernel_rfl) (tlK (by kernel_rfl) rfl) rfl,by assumption,by first | exact FrE.trans (FrE.trans (FrE.trans (FrE.trans (FrE.trans (hfr) (by assumption)) (by assumption)) (by assumption)) (by assumption)) (by assumption)⟩
theorem pc_br0 {m:Int} {fl rb q:Nat} {hp hp1:List Blk} {s:List UInt8} {bad1:Int} {n:Node} {ks:AV} {lo hi:Int} {ok:Bool} {q2:Nat} (ha:evI (cfg m) fl 60 [.ptr rb 0] hp=some (nAV n ks,hp1)) (hb1:blkCells hp1 rb=some (rdB s q bad1)) (hfr:FrE [rb] hp hp1) (x0:¬ ((bad1 < 0∧q < s.length)∧gb s q=42)) (x1:¬ ((bad1 < 0∧(eatP s q bad1 42) < s.length)∧gb s (eatP s q bad1 42)=43)) (x2:¬ ((bad1 < 0∧(eatP s (eatP s q bad1 42) bad1 43) < s.length)∧gb s (eatP s (eatP s q bad1 42) bad1 43)=63)) (he:(bad1 < 0∧(eatP s (eatP s (eatP s q bad1 42) bad1 43) bad1 63) < s.length)∧gb s (eatP s (eatP s (eatP s q bad1 42) bad1 43) bad1 63)=123) (hbr:∀ h,blkCells h rb=some (rdB s (eatP s (eatP s (eatP s (eatP s q bad1 42) bad1 43) bad1 63) bad1 123) bad1)→∃ h',evI (cfg m) fl 61 [.ptr rb 0] h=some (.tup [.int .i64 lo, .int .i64 hi, .bool ok],h')∧blkCells h' rb=some (rdB s q2 bad1)∧FrE [rb] h h') (hok:ok=false) (hf:fl≤rb) (hl:s.length≤256):∃ hp',evI (cfg m) fl 44 [.ptr rb 0] hp=some (emptyAV,hp')∧blkCells hp' rb=some (rdB s q2 (if bad1 < 0 then (q:Int) else bad1))∧FrE [rb] hp hp':=by
 obtain ⟨hp'1,e2,h3,h4⟩:=(eat42 (m:=m) (bad:=bad1) hb1 hf hl)
 obtain ⟨hp'5,e6,h7,h8⟩:=(eat43 (m:=m) (bad:=bad1) h3 hf hl)
 obtain ⟨hp'9,e10,h11,h12⟩:=(eat63 (m:=m) (bad:=bad1) h7 hf hl)
 obtain ⟨hp'13,e14,h15,h16⟩:=(eat123 (m:=m) (bad:=bad1) h11 hf hl)
 obtain ⟨h'17,e18,h19,h20⟩:=(hbr _ h15)
 obtain ⟨hp'21,e22,h23,h24⟩:=(wrong_ok (m:=m) (bad:=bad1) (w:=(↑q:Int)) h19 hf)
 exact ⟨hp'21,evX (AV.agg [AI 0,AW 0,AW 0,AW 0,AW 0,AI 0,AI 0,AV.nilS]) (hp'21) [.c 1 1 ha, .m 2 4 (load_ok (C:=cfg m) (t:=3) (off:=1) (x:=AI q) hb1 (by kernel_rfl)), .cb 5 3 e2 (decide_eq_false (x0)), .cb 6 3 e6 (decide_eq_false (x1)), .cb 8 3 e10 (decide_eq_false (x2)), .cb 10 3 e14 (decide_eq_true (he)), .c 11 1 e18, .b 11 5 hok, .c 13 4 e22] (by kernel_rfl) (tlK (by kernel_rfl) rfl) rfl,by assumption,by first | exact FrE.trans (FrE.trans (FrE.trans (FrE.trans (FrE.trans (FrE.trans (hfr) (by assumption)) (by assumption)) (by assumption)) (by assumption)) (by assumption)) (by assumption)⟩
abbrev zBx:TV := .bx [AI 0,AW 0,AW 0,AW 0,AW 0,AI 0,AI 0, .nilS]
abbrev alSt (rb:Nat) (x y:AV):List TV:=[.v (.ptr rb 0),J,zBx, .v x, .v y]++List.replicate 39 J
abbrev alEnd (x y:AV):List TV:=[J,J,zBx, .v x, .v y]++List.replicate 39 J
theorem al_x1 {m:Int} {fl rb p:Nat} {hp:List Blk} {s:List UInt8} {bad:Int} {x y:AV} (hb:blkCells hp rb=some (rdB s p bad)) (hL:¬ (bad < 0∧p < s.length)):LoopI (cfg m) fl 27 (bodyAt (cfg m) 27 2) 2 ⟨alSt rb x y,hp⟩ (.exit 0) ⟨alEnd x y,hp⟩:=by
 exact loopEndC (.exit 0) (St.mk ([J,J,TV.bx [AI 0,AW 0,AW 0,AW 0,AW 0,AI 0,AI 0,AV.nilS],TV.v x,TV.v y]++Jn 39) hp) [.cb 2 3 (left_ok (m:=m) (fl:=fl) (bad:=bad) hb) (decide_eq_false (hL))] (by kernel_rfl) (fun h=>by cases h) rfl
theorem al_x2 {m:Int} {fl rb p:Nat} {hp:List Blk} {s:List UInt8} {bad:Int} {x y:AV} (hb:blkCells hp rb=some (rdB s p bad)) (hL:bad < 0∧p < s.length) (hN:(bad < 0∧p < s.length)∧oneOf [41] (gb s p)=true):LoopI (cfg m) fl 27 (bodyAt (cfg m) 27 2) 2 ⟨alSt rb x y,hp⟩ (.exit 0) ⟨alEnd x y,hp⟩:=by
 exact loopEndC (.exit 0) (St.mk ([J,J,TV.bx [AI 0,AW 0,AW 0,AW 0,AW 0,AI 0,AI 0,AV.nilS],TV.v x,TV.v y]++Jn 39) hp) [.cb 2 3 (left_ok (m:=m) (fl:=fl) (bad:=bad) hb) (decide_eq_true (hL)), .cb 2 8 (is_ok (m:=m) (fl:=fl) (l:=[41]) (bad:=bad) hb) (decide_eq_true (hN))] (by kernel_rfl) (fun h=>by cases h) rfl
theorem al_pc {m:Int} {fl n0 rb p q:Nat} {hp0 hp:List Blk} {s:List UInt8} {bad bad1:Int} {x y:AV} {A O:List AV} {N:Node} (hb:blkCells hp rb=some (rdB s p bad)) (hR:Row2 n0 rb hp0 hp x y A O) (hrb:rb < n0) (hL:bad < 0∧p < s.length) (hN:¬ ((bad < 0∧p < s.length)∧oneOf [41] (gb s p)=true)) (hE:¬ ((bad < 0∧p < s.length)∧gb s p=124)) (hpc:∀ h,blkCells h rb=some (rdB s (eatP s p bad 124) bad)→FrE [rb] hp h→∃ ks h',evI (cfg m) fl 44 [.ptr rb 0] h=some (nAV N ks,h')∧KidsR N.kids ks∧blkCells h' rb=some (rdB s q bad1)∧FrE [rb] h h') (hO:O.length + 1≤100000) (hfn:fl≤n0) (hf:fl≤rb) (hl:s.length≤256):∃ hp' y' ks,LoopS (cfg m) fl 27 (bodyAt (cfg m) 27 2) 2 ⟨alSt rb x y,hp⟩ ⟨alSt rb x y',hp'⟩∧KidsR N.kids ks∧Row2 n0 rb hp0 hp' x y' A (O++[nAV N ks])∧blkCells hp' rb=some (rdB s q bad1):=by
 obtain ⟨hp'1,e2,h3,h4⟩:=(eat124 (m:=m) (bad:=bad) hb hf hl)
 obtain ⟨ks5,h'6,e7,h8,h9,h10⟩:=(hpc _ h3 h4)
 obtain ⟨y'11,hp'12,e13,h14,h15⟩:=(Row2.append_y (C:=cfg m) (hp0:=hp0) (hp:=h'6) (x:=x) (y:=y) (v:=AV.agg [AI N.kind,AW N.set.a.toNat,AW N.set.b.toNat,AW N.set.c.toNat,AW N.set.d.toNat,AI N.mn,AI N.mx,ks5]) (A:=A) (t:=41) (o:=Own.exact) (Row2.frE2 hR h4 h10 hb hrb) (by kernel_rfl) hO hfn hrb)
 exact ⟨hp'12,_,_,loopStepS (St.mk ([TV.v (AV.ptr rb 0),J,TV.bx [AI 0,AW 0,AW 0,AW 0,AW 0,AI 0,AI 0,AV.nilS],TV.v x,TV.v y'11]++Jn 39) hp'12) [.cb 2 3 (left_ok (m:=m) (fl:=fl) (bad:=bad) hb) (decide_eq_true (hL)), .cb 2 8 (is_ok (m:=m) (fl:=fl) (l:=[41]) (bad:=bad) hb) (decide_eq_false (hN)), .cb 3 3 e2 (decide_eq_false (hE)), .c 5 2 e7, .m 5 4 e13] (by kernel_rfl) rfl,by assumption,by assumption,by first | assumption | exact ‹∀ cs,blkCells _ rb=some cs→blkCells _ rb=some cs› _ (by assumption)⟩
theorem al_bar {m:Int} {fl n0 rb p:Nat} {hp0 hp:List Blk} {s:List UInt8} {bad:Int} {x y:AV} {A O:List AV} {N:Node} (hb:blkCells hp rb=some (rdB s p bad)) (hR:Row2 n0 rb hp0 hp x y A O) (hrb:rb < n0) (hL:bad < 0∧p < s.length) (hN:¬ ((bad < 0∧p < s.length)∧oneOf [41] (gb s p)=true)) (hE:(bad < 0∧p < s.length)∧gb s p=124) (hct:∀ h,∃ ks,evI (cfg m) fl 43 [y] h=some (nAV N ks,h)∧KidsR N.kids ks) (hA:A.length + 1≤100000) (hfn:fl≤n0) (hf:fl≤rb) (hl:s.length≤256):∃ hp' x' ks,LoopS (cfg m) fl 27 (bodyAt (cfg m) 27 2) 2 ⟨alSt rb x y,hp⟩ ⟨alSt rb x' .nilS,hp'⟩∧KidsR N.kids ks∧Row2 n0 rb hp0 hp' x' .nilS (A++[nAV N ks]) []∧blkCells hp' rb=some (rdB s (eatP s p bad 124) bad):=by
 obtain ⟨hp'1,e2,h3,h4⟩:=(eat124 (m:=m) (bad:=bad) hb hf hl)
 obtain ⟨ks5,e6,h7⟩:=(hct (hp'1))
 obtain ⟨x'8,hp'9,e10,h11,h12⟩:=(Row2.append_x (C:=cfg m) (hp0:=hp0) (hp:=hp'1) (x:=x) (y:=y) (v:=AV.agg [AI N.kind,AW N.set.a.toNat,AW N.set.b.toNat,AW N.set.c.toNat,AW N.set.d.toNat,AI N.mn,AI N.mx,ks5]) (O:=O) (t:=41) (o:=Own.exact) (Row2.frE hR h4 hb hrb) (by kernel_rfl) hA hfn hrb)
 exact ⟨hp'9,_,_,loopStepS (St.mk ([TV.v (AV.ptr rb 0),J,TV.bx [AI 0,AW 0,AW 0,AW 0,AW 0,AI 0,AI 0,AV.nilS],TV.v x'8,TV.v AV.nilS]++Jn 39) hp'9) [.cb 2 3 (left_ok (m:=m) (fl:=fl) (bad:=bad) hb) (decide_eq_true (hL)), .cb 2 8 (is_ok (m:=m) (fl:=fl) (l:=[41]) (bad:=bad) hb) (decide_eq_false (hN)), .cb 3 3 e2 (decide_eq_true (hE)), .c 4 2 e6, .m 4 4 e10] (by kernel_rfl) rfl,by assumption,by assumption,by first | assumption | exact ‹∀ cs,blkCells _ rb=some cs→blkCells _ rb=some cs› _ (by assumption)⟩
theorem al_e1 {m:Int} {fl rb q:Nat} {hp hp1:List Blk} {s:List UInt8} {bad1:Int} {y:AV} {A O:List AV} {N:Node} {ks ks':AV} (hlp:LoopI (cfg m) fl 27 (bodyAt (cfg m) 27 2) 2 ⟨alSt rb .nilS .nilS,hp⟩ (.exit 0) ⟨alEnd .nilS y,hp1⟩) (hct:evI (cfg m) fl 43 [y] hp1=some (nAV N ks,hp1)) (hR:Row2 hp.length rb hp hp1 .nilS y A O) (hb:blkCells hp1 rb=some (rdB s q bad1)) (hs:∀ h,shutV h hp.length 100000 (nAV N ks)=some (nAV N ks')) (hc:cloH hp.length hp=true) (hr:rb < hp.length):evI (cfg m) fl 27 [.ptr rb 0] hp=some (nAV N ks',setAt hp rb (.cells (rdB s q bad1))):=by
 exact evX (AV.agg [AI N.kind,AW N.set.a.toNat,AW N.set.b.toNat,AW N.set.c.toNat,AW N.set.d.toNat,AI N.mn,AI N.mx,ks]) (hp1++[Blk.fam (([]:List AV).length + [AV.agg [AI N.kind,AW N.set.a.toNat,AW N.set.b.toNat,AW N.set.c.toNat,AW N.set.d.toNat,AI N.mn,AI N.mx,ks]].length)]) [.l 2 hlp, .c 6 2 hct, .b 7 2 (beq_iff_eq.2 ((show (↑[AV.agg [AI N.kind,AW N.set.a.toNat,AW N.set.b.toNat,AW N.set.c.toNat,AW N.set.d.toNat,AI N.mn,AI N.mx,ks]].length:Int)=1 from (by have:=blk_lt hb;simp only [setAt_length,List.length_append,List.length_cons,List.length_nil,List.length_map] at *;omega))))] (by kernel_rfl) (tlM (by kernel_rfl) rfl ((take_appL (by first | (simp;done) | exact E.Row2.len (by assumption))).trans (Row2.take' hR hb hr)) (clo_rd (rb:=rb) (p:=q) (s:=s) (bad:=bad1) hc) (hs (hp1++[Blk.fam (([]:List AV).length + [AV.agg [AI N.kind,AW N.set.a.toNat,AW N.set.b.toNat,AW N.set.c.toNat,AW N.set.d.toNat,AI N.mn,AI N.mx,ks]].length)]))) rfl
theorem al_e2 {m:Int} {fl rb q g b k:Nat} {hp hp1 hp2 hp3:List Blk} {s:List UInt8} {bad1:Int} {x y v':AV} {B:List AV} {N:Node} {ks:AV} (hlp:LoopI (cfg m) fl 27 (bodyAt (cfg m) 27 2) 2 ⟨alSt rb .nilS .nilS,hp⟩ (.exit 0) ⟨alEnd x y,hp1⟩) (hct:evI (cfg m) fl 43 [y] hp1=some (nAV N ks,hp1)) (hap:∀ ts,builtinE (cfg m) fl false ⟨ts,hp1⟩ .append [41,41] [x, .lit 8 .exact [nAV N ks]]=some ⟨.v (.lit 8 (.fam g 0) B),ts,hp2, .fw⟩) (hB:2≤B.length) (hfl:evI (cfg m) fl 45 [.int .i64 5, .lit 8 (.fam g 0) B] hp2=some (.arr 8 b 0 k,hp3)) (hs:shutV hp3 hp.length 100000 (.agg [.int .i64 5, .int .u64 0, .int .u64 0, .int .u64 0, .int .u64 0, .int .i64 0, .int .i64 0, .arr 8 b 0 k])=some v') (htk:hp3.take hp.length=setAt hp rb (.cells (rdB s q bad1))) (hc:cloH hp.length hp=true) (hr:rb < hp.length):evI (cfg m) fl 27 [.ptr rb 0] hp=some (v',setAt hp rb (.cells (rdB s q bad1))):=by
 exact evX (AV.agg [AI 5,AW 0,AW 0,AW 0,AW 0,AI 0,AI 0,AV.arr 8 b 0 k]) (hp3) [.l 2 hlp, .c 6 2 hct, .m 6 4 hap, .b 7 2 (beq_false_of_ne ((show ¬(↑B.length:Int)=1 from (by omega)))), .c 9 1 hfl] (by kernel_rfl) (tlM (by kernel_rfl) rfl htk (clo_rd (rb:=rb) (p:=q) (s:=s) (bad:=bad1) hc) hs) rfl
theorem al_e3 {m:Int} {fl rb q g:Nat} {hp hp1 hp2 hp3:List Blk} {s:List UInt8} {bad1:Int} {x y:AV} {B:List AV} {N:Node} {ks:AV} (hlp:LoopI (cfg m) fl 27 (bodyAt (cfg m) 27 2) 2 ⟨alSt rb .nilS .nilS,hp⟩ (.exit 0) ⟨alEnd x y,hp1⟩) (hct:evI (cfg m) fl 43 [y] hp1=some (nAV N ks,hp1)) (hap:∀ ts,builtinE (cfg m) fl false ⟨ts,hp1⟩ .append [41,41] [x, .lit 8 .exact [nAV N ks]]=some ⟨.v (.lit 8 (.fam g 0) B),ts,hp2, .fw⟩) (hB:2≤B.length) (hfl:evI (cfg m) fl 45 [.int .i64 5, .lit 8 (.fam g 0) B] hp2=some (.nilS,hp3)) (htk:hp3.take hp.length=setAt hp rb (.cells (rdB s q bad1))) (hc:cloH hp.length hp=true) (hr:rb < hp.length):evI (cfg m) fl 27 [.ptr rb 0] hp=some (nAV (.mk 5 W4.zero 0 0 []) .nilS,setAt hp rb (.cells (rdB s q bad1))):=by
 exact evX (AV.agg [AI 5,AW 0,AW 0,AW 0,AW 0,AI 0,AI 0,AV.nilS]) (hp3) [.l 2 hlp, .c 6 2 hct, .m 6 4 hap, .b 7 2 (beq_false_of_ne ((show ¬(↑B.length:Int)=1 from (by omega)))), .c 9 1 hfl] (by kernel_rfl) (tlM (by kernel_rfl) rfl htk (clo_rd (rb:=rb) (p:=q) (s:=s) (bad:=bad1) hc) (shutT (v:=AV.agg [AI 5,AW 0,AW 0,AW 0,AW 0,AI 0,AI 0,AV.nilS]) (v':=AV.agg [AI 5,AW 0,AW 0,AW 0,AW 0,AI 0,AI 0,AV.nilS]) (by kernel_rfl))) rfl
def digs:List UInt8:=[48,49,50,51,52,53,54,55,56,57]
abbrev nuSt (rb p:Nat):List TV:=[.v (.ptr rb 0),J,J,J, .v (AI p)]++List.replicate 35 J
theorem isD {m:Int} {fl rb p:Nat} {hp:List Blk} {s:List UInt8} {bad:Int} (hb:blkCells hp rb=some (rdB s p bad)):evI (cfg m) fl 41 [.ptr rb 0, .str [48,49,50,51,52,53,54,55,56,57]] hp=some (.bool (decide ((bad < 0∧p < s.length)∧oneOf digs (gb s p)=true)),hp):=is_ok hb
theorem nu_s {m:Int} {fl rb p p0:Nat} {hp:List Blk} {s:List UInt8} {bad:Int} (hb:blkCells hp rb=some (rdB s p bad)) (hd:(bad < 0∧p < s.length)∧oneOf digs (gb s p)=true) (hf:fl≤rb) (hl:s.length≤256):∃ hp',LoopS (cfg m) fl 73 (bodyAt (cfg m) 73 2) 2 ⟨nuSt rb p0,hp⟩ ⟨nuSt rb p0,hp'⟩∧blkCells hp' rb=some (rdB s (p + 1) bad)∧FrE [rb] hp hp':=by
 exact ⟨setAt hp rb (BC [AV.str s,AI ((↑p:Int) + 1),AI bad]),loopStepS (St.mk ([TV.v (AV.ptr rb 0),J,J,J,TV.v (AI p0)]++Jn 35) (setAt hp rb (BC [AV.str s,AI ((↑p:Int) + 1),AI bad]))) [.cb 2 1 (isD (m:=m) (fl:=fl) (bad:=bad) hb) (decide_eq_true (hd)), .m 3 3 (load_ok (C:=cfg m) (t:=3) (off:=1) (x:=AI p) hb (by kernel_rfl)), .w 3 4 IntKind.i64 ((↑p:Int) + 1) (wrap_i64' (by omega)), .t 3 7 (store_ok (C:=cfg m) (t:=3) (off:=1) (hp':=setAt hp rb (BC [AV.str s,AI ((↑p:Int) + 1),AI bad])) (cs':=[AV.str s,AI ((↑p:Int) + 1),AI bad]) (x:=AI ((↑p:Int) + 1)) hb (by kernel_rfl) hf rfl)] (by kernel_rfl) rfl,blk_set (blk_lt hb),FrE.set (List.mem_singleton.2 rfl)⟩
theorem nu_x {m:Int} {fl rb p p0:Nat} {hp:List Blk} {s:List UInt8} {bad:Int} (hb:blkCells hp rb=some (rdB s p bad)) (hd:¬ ((bad < 0∧p < s.length)∧oneOf digs (gb s p)=true)):LoopI (cfg m) fl 73 (bodyAt (cfg m) 73 2) 2 ⟨nuSt rb p0,hp⟩ (.exit 0) ⟨nuSt rb p0,hp⟩:=by
 exact loopEndC (.exit 0) (St.mk ([TV.v (AV.ptr rb 0),J,J,J,TV.v (AI p0)]++Jn 35) hp) [.cb 2 1 (isD (m:=m) (fl:=fl) (bad:=bad) hb) (decide_eq_false (hd))] (by kernel_rfl) (fun h=>by cases h) rfl
def digE (s:List UInt8) (bad:Int):Nat→Nat→Nat
 | 0,p=>p
 | f + 1,p=>if (bad < 0∧p < s.length)∧oneOf digs (gb s p)=true then digE s bad f (p + 1) else p
theorem digE_bd {s:List UInt8} {bad:Int}:∀ f p,p≤digE s bad f p∧(p≤s.length→digE s bad f p≤s.length)
 | 0,p=>⟨Nat.le_refl _,id⟩
 | f + 1,p=>by
  unfold digE
  split
  ·rename_i h
   have:=digE_bd (s:=s) (bad:=bad) f (p + 1)
   exact ⟨by omega,fun _=>this.2 (by omega)⟩
  ·exact ⟨Nat.le_refl _,id⟩
theorem nu_loop {m:Int} {fl rb p0:Nat} {s:List UInt8} {bad:Int} (hf:fl≤rb) (hl:s.length≤256):∀ (f p:Nat) {hp:List Blk},s.length + 1≤f + p→blkCells hp rb=some (rdB s p bad)→∃ hp',LoopI (cfg m) fl 73 (bodyAt (cfg m) 73 2) 2 ⟨nuSt rb p0,hp⟩ (.exit 0) ⟨nuSt rb p0,hp'⟩∧blkCells hp' rb=some (rdB s (digE s bad f p) bad)∧FrE [rb] hp hp'
 | 0,p,hp,h,hb=>⟨hp,nu_x hb (by omega),hb, .refl _ _⟩
 | f + 1,p,hp,h,hb=>by
  unfold digE
  by_cases hd:(bad < 0∧p < s.length)∧oneOf digs (gb s p)=true
  ·rw [if_pos hd]
   obtain ⟨hp1,h1,h2,h3⟩:=nu_s (m:=m) (p0:=p0) hb hd hf hl
   obtain ⟨hp2,g1,g2,g3⟩:=nu_loop (m:=m) (p0:=p0) hf hl f (p + 1) (by omega) h2
   exact ⟨hp2,h1 _ _ g1,g2,h3.trans g3⟩
  ·rw [if_neg hd]
   exact ⟨hp,nu_x hb hd,hb, .refl _ _⟩
theorem nu_lp {m:Int} {fl rb p0 p q:Nat} {hp:List Blk} {s:List UInt8} {bad:Int} (hb:blkCells hp rb=some (rdB s p bad)) (hq:digE s bad (s.length + 1) p=q) (hf:fl≤rb) (hl:s.length≤256):∃ hp',LoopI (cfg m) fl 73 (bodyAt (cfg m) 73 2) 2 ⟨nuSt rb p0,hp⟩ (.exit 0) ⟨nuSt rb p0,hp'⟩∧blkCells hp' rb=some (rdB s q bad)∧FrE [rb] hp hp':=hq ▸ nu_loop hf hl (s.length + 1) p (by omega) hb
def digT (s:List UInt8) (p q:Nat):List UInt8:=(s.drop p).take (q - p)
theorem slice_dig {C:Cfg} {t:TypeId} {s:List UInt8} {k k':IntKind} {p q:Nat} {hp:List Blk} (ht:isStr C t=true) (h1:p≤q) (h2:q≤s.length):∀ ts,sliceE C ⟨ts,hp⟩ t (.v (.str s)) (some (.int k (p:Int))) (some (.int k' (q:Int))) none=some (.str (digT s p q)):=fun ts=>by
 rw [slice_strI ht (by omega) (by omega) (by omega)]
 simp [digT]
theorem num_1 {m:Int} {fl rb p q:Nat} {hp:List Blk} {s:List UInt8} {bad v:Int} {ok:Bool} (hb:blkCells hp rb=some (rdB s p bad)) (hq:digE s bad (s.length + 1) p=q) (hpq:p≤q) (hql:q≤s.length) (hP:∀ h,evI (cfg m) fl 82 [.str (digT s p q)] h=some (.tup [.int .i64 v, .bool ok],h)) (hok:ok=true) (hf:fl≤rb) (hl:s.length≤256):∃ hp',evI (cfg m) fl 73 [.ptr rb 0] hp=some (.tup [.int .i64 v, .bool (decide (v≤20))],hp')∧blkCells hp' rb=some (rdB s q bad)∧FrE [rb] hp hp':=by
 obtain ⟨hp'1,e2,h3,h4⟩:=(nu_lp (m:=m) (p0:=p) (bad:=bad) hb hq hf hl)
 by_cases h5:v≤20
 ·exact ⟨hp'1,evX (AV.tup [AI v,AV.bool true]) (hp'1) [.m 1 3 (load_ok (C:=cfg m) (t:=3) (off:=1) (x:=AI p) hb (by kernel_rfl)), .l 2 e2, .m 4 3 (load_ok (C:=cfg m) (t:=9) (off:=0) (x:=AV.str s) h3 (by kernel_rfl)), .m 4 8 (load_ok (C:=cfg m) (t:=3) (off:=1) (x:=AI q) h3 (by kernel_rfl)), .s 4 9 (hp'1) Fp.z (slice_dig (C:=cfg m) (t:=9) (k:=IntKind.i64) (k':=IntKind.i64) (hp:=hp'1) (by kernel_rfl) hpq hql), .c 4 10 (hP (hp'1)), .b 4 13 hok, .b 5 4 (decide_eq_true h5)] (by kernel_rfl) (tlK (by kernel_rfl) rfl) (by simp [*]),by assumption,by assumption⟩
 ·exact ⟨hp'1,evX (AV.tup [AI v,AV.bool false]) (hp'1) [.m 1 3 (load_ok (C:=cfg m) (t:=3) (off:=1) (x:=AI p) hb (by kernel_rfl)), .l 2 e2, .m 4 3 (load_ok (C:=cfg m) (t:=9) (off:=0) (x:=AV.str s) h3 (by kernel_rfl)), .m 4 8 (load_ok (C:=cfg m) (t:=3) (off:=1) (x:=AI q) h3 (by kernel_rfl)), .s 4 9 (hp'1) Fp.z (slice_dig (C:=cfg m) (t:=9) (k:=IntKind.i64) (k':=IntKind.i64) (hp:=hp'1) (by kernel_rfl) hpq hql), .c 4 10 (hP (hp'1)), .b 4 13 hok, .b 5 4 (decide_eq_false h5)] (by kernel_rfl) (tlK (by kernel_rfl) rfl) (by simp [*]),by assumption,by assumption⟩
theorem num_0 {m:Int} {fl rb p q:Nat} {hp:List Blk} {s:List UInt8} {bad v:Int} {ok:Bool} (hb:blkCells hp rb=some (rdB s p bad)) (hq:digE s bad (s.length + 1) p=q) (hpq:p≤q) (hql:q≤s.length) (hP:∀ h,evI (cfg m) fl 82 [.str (digT s p q)] h=some (.tup [.int .i64 v, .bool ok],h)) (hok:ok=false) (hf:fl≤rb) (hl:s.length≤256):∃ hp',evI (cfg m) fl 73 [.ptr rb 0] hp=some (.tup [.int .i64 v, .bool false],hp')∧blkCells hp' rb=some (rdB s q bad)∧FrE [rb] hp hp':=by
 obtain ⟨hp'1,e2,h3,h4⟩:=(nu_lp (m:=m) (p0:=p) (bad:=bad) hb hq hf hl)
 exact ⟨hp'1,evX (AV.tup [AI v,AV.bool false]) (hp'1) [.m 1 3 (load_ok (C:=cfg m) (t:=3) (off:=1) (x:=AI p) hb (by kernel_rfl)), .l 2 e2, .m 4 3 (load_ok (C:=cfg m) (t:=9) (off:=0) (x:=AV.str s) h3 (by kernel_rfl)), .m 4 8 (load_ok (C:=cfg m) (t:=3) (off:=1) (x:=AI q) h3 (by kernel_rfl)), .s 4 9 (hp'1) Fp.z (slice_dig (C:=cfg m) (t:=9) (k:=IntKind.i64) (k':=IntKind.i64) (hp:=hp'1) (by kernel_rfl) hpq hql), .c 4 10 (hP (hp'1)), .b 4 13 hok] (by kernel_rfl) (tlK (by kernel_rfl) rfl) (by simp [*]),by assumption,by assumption⟩
theorem br_a {m:Int} {fl rb p q1 q5:Nat} {hp:List Blk} {s:List UInt8} {bad v1 v2:Int} {k1 k2:Bool} (hb:blkCells hp rb=some (rdB s p bad)) (hn1:∀ h,blkCells h rb=some (rdB s p bad)→∃ h',evI (cfg m) fl 73 [.ptr rb 0] h=some (.tup [.int .i64 v1, .bool k1],h')∧blkCells h' rb=some (rdB s q1 bad)∧FrE [rb] h h') (e1:k1=false) (hf:fl≤rb) (hl:s.length≤256):∃ hp',evI (cfg m) fl 61 [.ptr rb 0] hp=some (.tup [.int .i64 0, .int .i64 0, .bool false],hp')∧blkCells hp' rb=some (rdB s q1 bad)∧FrE [rb] hp hp':=by
 obtain ⟨h'1,e2,h3,h4⟩:=(hn1 _ hb)
 exact ⟨h'1,evX (AV.tup [AI 0,AI 0,AV.bool false]) (h'1) [.c 1 3 e2, .b 1 6 e1] (by kernel_rfl) (tlK (by kernel_rfl) rfl) (by simp [*]),by assumption,by first | assumption | exact FrE.trans (by assumption) (by assumption) | exact FrE.trans (FrE.trans (by assumption) (by assumption)) (by assumption) | exact FrE.trans (FrE.trans (FrE.trans (by assumption) (by assumption)) (by assumption)) (by assumption) | exact FrE.trans (FrE.trans (FrE.trans (FrE.trans (by assumption) (by assumption)) (by assumption)) (by assumption)) (by assumption) | exact FrE.trans (FrE.trans (FrE.trans (FrE.trans (FrE.trans (by assumption) (by assumption)) (by assumption)) (by assumption)) (by assumption)) (by assumption)⟩
theorem br_b {m:Int} {fl rb p q1 q5:Nat} {hp:List Blk} {s:List UInt8} {bad v1 v2:Int} {k1 k2:Bool} (hb:blkCells hp rb=some (rdB s p bad)) (hn1:∀ h,blkCells h rb=some (rdB s p bad)→∃ h',evI (cfg m) fl 73 [.ptr rb 0] h=some (.tup [.int .i64 v1, .bool k1],h')∧blkCells h' rb=some (rdB s q1 bad)∧FrE [rb] h h') (e1:k1=true) (x1:(bad < 0∧q1 < s.length)∧gb s q1=125) (hf:fl≤rb) (hl:s.length≤256):∃ hp',evI (cfg m) fl 61 [.ptr rb 0] hp=some (.tup [.int .i64 v1, .int .i64 v1, .bool true],hp')∧blkCells hp' rb=some (rdB s (eatP s q1 bad 125) bad)∧FrE [rb] hp hp':=by
 obtain ⟨h'1,e2,h3,h4⟩:=(hn1 _ hb)
 obtain ⟨hp'5,e6,h7,h8⟩:=(eat125 (m:=m) (bad:=bad) h3 hf hl)
 exact ⟨hp'5,evX (AV.tup [AI v1,AI v1,AV.bool true]) (hp'5) [.c 1 3 e2, .b 1 6 e1, .cb 4 3 e6 (decide_eq_true (x1))] (by kernel_rfl) (tlK (by kernel_rfl) rfl) (by simp [*]),by assumption,by first | assumption | exact FrE.trans (by assumption) (by assumption) | exact FrE.trans (FrE.trans (by assumption) (by assumption)) (by assumption) | exact FrE.trans (FrE.trans (FrE.trans (by assumption) (by assumption)) (by assumption)) (by assumption) | exact FrE.trans (FrE.trans (FrE.trans (FrE.trans (by assumption) (by assumption)) (by assumption)) (by assumption)) (by assumption) | exact FrE.trans (FrE.trans (FrE.trans (FrE.trans (FrE.trans (by assumption) (by assumption)) (by assumption)) (by assumption)) (by assumption)) (by assumption)⟩
theorem br_c {m:Int} {fl rb p q1 q5:Nat} {hp:List Blk} {s:List UInt8} {bad v1 v2:Int} {k1 k2:Bool} (hb:blkCells hp rb=some (rdB s p bad)) (hn1:∀ h,blkCells h rb=some (rdB s p bad)→∃ h',evI (cfg m) fl 73 [.ptr rb 0] h=some (.tup [.int .i64 v1, .bool k1],h')∧blkCells h' rb=some (rdB s q1 bad)∧FrE [rb] h h') (e1:k1=true) (x1:¬ ((bad < 0∧q1 < s.length)∧gb s q1=125)) (x2:¬ ((bad < 0∧(eatP s q1 bad 125) < s.length)∧gb s (eatP s q1 bad 125)=44)) (hf:fl≤rb) (hl:s.length≤256):∃ hp',evI (cfg m) fl 61 [.ptr rb 0] hp=some (.tup [.int .i64 0, .int .i64 0, .bool false],hp')∧blkCells hp' rb=some (rdB s (eatP s (eatP s q1 bad 125) bad 44) bad)∧FrE [rb] hp hp':=by
 obtain ⟨h'1,e2,h3,h4⟩:=(hn1 _ hb)
 obtain ⟨hp'5,e6,h7,h8⟩:=(eat125 (m:=m) (bad:=bad) h3 hf hl)
 obtain ⟨hp'9,e10,h11,h12⟩:=(eat44 (m:=m) (bad:=bad) h7 hf hl)
 exact ⟨hp'9,evX (AV.tup [AI 0,AI 0,AV.bool false]) (hp'9) [.c 1 3 e2, .b 1 6 e1, .cb 4 3 e6 (decide_eq_false (x1)), .cb 6 3 e10 (decide_eq_false (x2))] (by kernel_rfl) (tlK (by kernel_rfl) rfl) (by simp [*]),by assumption,by first | assumption | exact FrE.trans (by assumption) (by assumption) | exact FrE.trans (FrE.trans (by assumption) (by assumption)) (by assumption) | exact FrE.trans (FrE.trans (FrE.trans (by assumption) (by assumption)) (by assumption)) (by assumption) | exact FrE.trans (FrE.trans (FrE.trans (FrE.trans (by assumption) (by assumption)) (by assumption)) (by assumption)) (by assumption) | exact FrE.trans (FrE.trans (FrE.trans (FrE.trans (FrE.trans (by assumption) (by assumption)) (by assumption)) (by assumption)) (by assumption)) (by assumption)⟩
theorem br_d {m:Int} {fl rb p q1 q5:Nat} {hp:List Blk} {s:List UInt8} {bad v1 v2:Int} {k1 k2:Bool} (hb:blkCells hp rb=some (rdB s p bad)) (hn1:∀ h,blkCells h rb=some (rdB s p bad)→∃ h',evI (cfg m) fl 73 [.ptr rb 0] h=some (.tup [.int .i64 v1, .bool k1],h')∧blkCells h' rb=some (rdB s q1 bad)∧FrE [rb] h h') (e1:k1=true) (x1:¬ ((bad < 0∧q1 < s.length)∧gb s q1=125)) (x2:(bad < 0∧(eatP s q1 bad 125) < s.length)∧gb s (eatP s q1 bad 125)=44) (x3:(bad < 0∧(eatP s (eatP s q1 bad 125) bad 44) < s.length)∧gb s (eatP s (eatP s q1 bad 125) bad 44)=125) (hf:fl≤rb) (hl:s.length≤256):∃ hp',evI (cfg m) fl 61 [.ptr rb 0] hp=some (.tup [.int .i64 v1, .int .i64 (-1), .bool true],hp')∧blkCells hp' rb=some (rdB s (eatP s (eatP s (eatP s q1 bad 125) bad 44) bad 125) bad)∧FrE [rb] hp hp':=by
 obtain ⟨h'1,e2,h3,h4⟩:=(hn1 _ hb)
 obtain ⟨hp'5,e6,h7,h8⟩:=(eat125 (m:=m) (bad:=bad) h3 hf hl)
 obtain ⟨hp'9,e10,h11,h12⟩:=(eat44 (m:=m) (bad:=bad) h7 hf hl)
 obtain ⟨hp'13,e14,h15,h16⟩:=(eat125 (m:=m) (bad:=bad) h11 hf hl)
 exact ⟨hp'13,evX (AV.tup [AI v1,AI (-1),AV.bool true]) (hp'13) [.c 1 3 e2, .b 1 6 e1, .cb 4 3 e6 (decide_eq_false (x1)), .cb 6 3 e10 (decide_eq_true (x2)), .cb 8 3 e14 (decide_eq_true (x3))] (by kernel_rfl) (tlK (by kernel_rfl) rfl) (by simp [*]),by assumption,by first | assumption | exact FrE.trans (by assumption) (by assumption) | exact FrE.trans (FrE.trans (by assumption) (by assumption)) (by assumption) | exact FrE.trans (FrE.trans (FrE.trans (by assumption) (by assumption)) (by assumption)) (by assumption) | exact FrE.trans (FrE.trans (FrE.trans (FrE.trans (by assumption) (by assumption)) (by assumption)) (by assumption)) (by assumption) | exact FrE.trans (FrE.trans (FrE.trans (FrE.trans (FrE.trans (by assumption) (by assumption)) (by assumption)) (by assumption)) (by assumption)) (by assumption)⟩
theorem br_e {m:Int} {fl rb p q1 q5:Nat} {hp:List Blk} {s:List UInt8} {bad v1 v2:Int} {k1 k2:Bool} (hb:blkCells hp rb=some (rdB s p bad)) (hn1:∀ h,blkCells h rb=some (rdB s p bad)→∃ h',evI (cfg m) fl 73 [.ptr rb 0] h=some (.tup [.int .i64 v1, .bool k1],h')∧blkCells h' rb=some (rdB s q1 bad)∧FrE [rb] h h') (e1:k1=true) (x1:¬ ((bad < 0∧q1 < s.length)∧gb s q1=125)) (x2:(bad < 0∧(eatP s q1 bad 125) < s.length)∧gb s (eatP s q1 bad 125)=44) (x3:¬ ((bad < 0∧(eatP s (eatP s q1 bad 125) bad 44) < s.length)∧gb s (eatP s (eatP s q1 bad 125) bad 44)=125)) (hn2:∀ h,blkCells h rb=some (rdB s (eatP s (eatP s (eatP s q1 bad 125) bad 44) bad 125) bad)→∃ h',evI (cfg m) fl 73 [.ptr rb 0] h=some (.tup [.int .i64 v2, .bool k2],h')∧blkCells h' rb=some (rdB s q5 bad)∧FrE [rb] h h') (f2:k2=false) (hf:fl≤rb) (hl:s.length≤256):∃ hp',evI (cfg m) fl 61 [.ptr rb 0] hp=some (.tup [.int .i64 v1, .int .i64 v2, .bool false],hp')∧blkCells hp' rb=some (rdB s q5 bad)∧FrE [rb] hp hp':=by
 obtain ⟨h'1,e2,h3,h4⟩:=(hn1 _ hb)
 obtain ⟨hp'5,e6,h7,h8⟩:=(eat125 (m:=m) (bad:=bad) h3 hf hl)
 obtain ⟨hp'9,e10,h11,h12⟩:=(eat44 (m:=m) (bad:=bad) h7 hf hl)
 obtain ⟨hp'13,e14,h15,h16⟩:=(eat125 (m:=m) (bad:=bad) h11 hf hl)
 obtain ⟨h'17,e18,h19,h20⟩:=(hn2 _ h15)
 exact ⟨h'17,evX (AV.tup [AI v1,AI v2,AV.bool false]) (h'17) [.c 1 3 e2, .b 1 6 e1, .cb 4 3 e6 (decide_eq_false (x1)), .cb 6 3 e10 (decide_eq_true (x2)), .cb 8 3 e14 (decide_eq_false (x3)), .c 10 3 e18, .b 10 6 f2] (by kernel_rfl) (tlK (by kernel_rfl) rfl) (by simp [*]),by assumption,by first | assumption | exact FrE.trans (by assumption) (by assumption) | exact FrE.trans (FrE.trans (by assumption) (by assumption)) (by assumption) | exact FrE.trans (FrE.trans (FrE.trans (by assumption) (by assumption)) (by assumption)) (by assumption) | exact FrE.trans (FrE.trans (FrE.trans (FrE.trans (by assumption) (by assumption)) (by assumption)) (by assumption)) (by assumption) | exact FrE.trans (FrE.trans (FrE.trans (FrE.trans (FrE.trans (by assumption) (by assumption)) (by assumption)) (by assumption)) (by assumption)) (by assumption)⟩
theorem br_f {m:Int} {fl rb p q1 q5:Nat} {hp:List Blk} {s:List UInt8} {bad v1 v2:Int} {k1 k2:Bool} (hb:blkCells hp rb=some (rdB s p bad)) (hn1:∀ h,blkCells h rb=some (rdB s p bad)→∃ h',evI (cfg m) fl 73 [.ptr rb 0] h=some (.tup [.int .i64 v1, .bool k1],h')∧blkCells h' rb=some (rdB s q1 bad)∧FrE [rb] h h') (e1:k1=true) (x1:¬ ((bad < 0∧q1 < s.length)∧gb s q1=125)) (x2:(bad < 0∧(eatP s q1 bad 125) < s.length)∧gb s (eatP s q1 bad 125)=44) (x3:¬ ((bad < 0∧(eatP s (eatP s q1 bad 125) bad 44) < s.length)∧gb s (eatP s (eatP s q1 bad 125) bad 44)=125)) (hn2:∀ h,blkCells h rb=some (rdB s (eatP s (eatP s (eatP s q1 bad 125) bad 44) bad 125) bad)→∃ h',evI (cfg m) fl 73 [.ptr rb 0] h=some (.tup [.int .i64 v2, .bool k2],h')∧blkCells h' rb=some (rdB s q5 bad)∧FrE [rb] h h') (f2:k2=true) (x5:¬ ((bad < 0∧q5 < s.length)∧gb s q5=125)) (hf:fl≤rb) (hl:s.length≤256):∃ hp',evI (cfg m) fl 61 [.ptr rb 0] hp=some (.tup [.int .i64 v1, .int .i64 v2, .bool false],hp')∧blkCells hp' rb=some (rdB s (eatP s q5 bad 125) bad)∧FrE [rb] hp hp':=by
 obtain ⟨h'1,e2,h3,h4⟩:=(hn1 _ hb)
 obtain ⟨hp'5,e6,h7,h8⟩:=(eat125 (m:=m) (bad:=bad) h3 hf hl)
 obtain ⟨hp'9,e10,h11,h12⟩:=(eat44 (m:=m) (bad:=bad) h7 hf hl)
 obtain ⟨hp'13,e14,h15,h16⟩:=(eat125 (m:=m) (bad:=bad) h11 hf hl)
 obtain ⟨h'17,e18,h19,h20⟩:=(hn2 _ h15)
 obtain ⟨hp'21,e22,h23,h24⟩:=(eat125 (m:=m) (bad:=bad) h19 hf hl)
 exact ⟨hp'21,evX (AV.tup [AI v1,AI v2,AV.bool false]) (hp'21) [.c 1 3 e2, .b 1 6 e1, .cb 4 3 e6 (decide_eq_false (x1)), .cb 6 3 e10 (decide_eq_true (x2)), .cb 8 3 e14 (decide_eq_false (x3)), .c 10 3 e18, .b 10 6 f2, .cb 11 7 e22 (decide_eq_false (x5))] (by kernel_rfl) (tlK (by kernel_rfl) rfl) (by simp [*]),by assumption,by first | assumption | exact FrE.trans (by assumption) (by assumption) | exact FrE.trans (FrE.trans (by assumption) (by assumption)) (by assumption) | exact FrE.trans (FrE.trans (FrE.trans (by assumption) (by assumption)) (by assumption)) (by assumption) | exact FrE.trans (FrE.trans (FrE.trans (FrE.trans (by assumption) (by assumption)) (by assumption)) (by assumption)) (by assumption) | exact FrE.trans (FrE.trans (FrE.trans (FrE.trans (FrE.trans (by assumption) (by assumption)) (by assumption)) (by assumption)) (by assumption)) (by assumption)⟩
theorem br_g {m:Int} {fl rb p q1 q5:Nat} {hp:List Blk} {s:List UInt8} {bad v1 v2:Int} {k1 k2:Bool} (hb:blkCells hp rb=some (rdB s p bad)) (hn1:∀ h,blkCells h rb=some (rdB s p bad)→∃ h',evI (cfg m) fl 73 [.ptr rb 0] h=some (.tup [.int .i64 v1, .bool k1],h')∧blkCells h' rb=some (rdB s q1 bad)∧FrE [rb] h h') (e1:k1=true) (x1:¬ ((bad < 0∧q1 < s.length)∧gb s q1=125)) (x2:(bad < 0∧(eatP s q1 bad 125) < s.length)∧gb s (eatP s q1 bad 125)=44) (x3:¬ ((bad < 0∧(eatP s (eatP s q1 bad 125) bad 44) < s.length)∧gb s (eatP s (eatP s q1 bad 125) bad 44)=125)) (hn2:∀ h,blkCells h rb=some (rdB s (eatP s (eatP s (eatP s q1 bad 125) bad 44) bad 125) bad)→∃ h',evI (cfg m) fl 73 [.ptr rb 0] h=some (.tup [.int .i64 v2, .bool k2],h')∧blkCells h' rb=some (rdB s q5 bad)∧FrE [rb] h h') (f2:k2=true) (x5:(bad < 0∧q5 < s.length)∧gb s q5=125) (hf:fl≤rb) (hl:s.length≤256):∃ hp',evI (cfg m) fl 61 [.ptr rb 0] hp=some (.tup [.int .i64 v1, .int .i64 v2, .bool (decide (v1≤v2))],hp')∧blkCells hp' rb=some (rdB s (eatP s q5 bad 125) bad)∧FrE [rb] hp hp':=by
 obtain ⟨h'1,e2,h3,h4⟩:=(hn1 _ hb)
 obtain ⟨hp'5,e6,h7,h8⟩:=(eat125 (m:=m) (bad:=bad) h3 hf hl)
 obtain ⟨hp'9,e10,h11,h12⟩:=(eat44 (m:=m) (bad:=bad) h7 hf hl)
 obtain ⟨hp'13,e14,h15,h16⟩:=(eat125 (m:=m) (bad:=bad) h11 hf hl)
 obtain ⟨h'17,e18,h19,h20⟩:=(hn2 _ h15)
 obtain ⟨hp'21,e22,h23,h24⟩:=(eat125 (m:=m) (bad:=bad) h19 hf hl)
 by_cases h25:v1≤v2
 ·exact ⟨hp'21,evX (AV.tup [AI v1,AI v2,AV.bool true]) (hp'21) [.c 1 3 e2, .b 1 6 e1, .cb 4 3 e6 (decide_eq_false (x1)), .cb 6 3 e10 (decide_eq_true (x2)), .cb 8 3 e14 (decide_eq_false (x3)), .c 10 3 e18, .b 10 6 f2, .cb 11 7 e22 (decide_eq_true (x5)), .b 11 12 (decide_eq_true h25)] (by kernel_rfl) (tlK (by kernel_rfl) rfl) (by simp [*]),by assumption,by first | assumption | exact FrE.trans (by assumption) (by assumption) | exact FrE.trans (FrE.trans (by assumption) (by assumption)) (by assumption) | exact FrE.trans (FrE.trans (FrE.trans (by assumption) (by assumption)) (by assumption)) (by assumption) | exact FrE.trans (FrE.trans (FrE.trans (FrE.trans (by assumption) (by assumption)) (by assumption)) (by assumption)) (by assumption) | exact FrE.trans (FrE.trans (FrE.trans (FrE.trans (FrE.trans (by assumption) (by assumption)) (by assumption)) (by assumption)) (by assumption)) (by assumption)⟩
 ·exact ⟨hp'21,evX (AV.tup [AI v1,AI v2,AV.bool false]) (hp'21) [.c 1 3 e2, .b 1 6 e1, .cb 4 3 e6 (decide_eq_false (x1)), .cb 6 3 e10 (decide_eq_true (x2)), .cb 8 3 e14 (decide_eq_false (x3)), .c 10 3 e18, .b 10 6 f2, .cb 11 7 e22 (decide_eq_true (x5)), .b 11 12 (decide_eq_false h25)] (by kernel_rfl) (tlK (by kernel_rfl) rfl) (by simp [*]),by assumption,by first | assumption | exact FrE.trans (by assumption) (by assumption) | exact FrE.trans (FrE.trans (by assumption) (by assumption)) (by assumption) | exact FrE.trans (FrE.trans (FrE.trans (by assumption) (by assumption)) (by assumption)) (by assumption) | exact FrE.trans (FrE.trans (FrE.trans (FrE.trans (by assumption) (by assumption)) (by assumption)) (by assumption)) (by assumption) | exact FrE.trans (FrE.trans (FrE.trans (FrE.trans (FrE.trans (by assumption) (by assumption)) (by assumption)) (by assumption)) (by assumption)) (by assumption)⟩
abbrev parseF (t:List UInt8):Int × Bool:=numP t
def numF (s:List UInt8) (p:Nat) (bad:Int):Int × Bool × Nat :=
 ((parseF (digT s p (digE s bad (s.length + 1) p))).1,(parseF (digT s p (digE s bad (s.length + 1) p))).2&&decide ((parseF (digT s p (digE s bad (s.length + 1) p))).1≤20),digE s bad (s.length + 1) p)
abbrev nx (s:List UInt8) (p:Nat) (bad:Int) (c:UInt8):Prop:=(bad < 0∧p < s.length)∧gb s p=c
def brcF (s:List UInt8) (p:Nat) (bad:Int):(Int × Int × Bool) × Nat :=
 let a:=numF s p bad
 if a.2.1=false then ((0,0,false),a.2.2)
 else if nx s a.2.2 bad 125 then ((a.1,a.1,true),eatP s a.2.2 bad 125)
 else if ¬ nx s (eatP s a.2.2 bad 125) bad 44 then ((0,0,false),eatP s (eatP s a.2.2 bad 125) bad 44)
 else if nx s (eatP s (eatP s a.2.2 bad 125) bad 44) bad 125 then ((a.1, -1,true),eatP s (eatP s (eatP s a.2.2 bad 125) bad 44) bad 125)
 else
  let b:=numF s (eatP s (eatP s (eatP s a.2.2 bad 125) bad 44) bad 125) bad
  if b.2.1=false then ((a.1,b.1,false),b.2.2)
  else if nx s b.2.2 bad 125 then ((a.1,b.1,decide (a.1≤b.1)),eatP s b.2.2 bad 125)
  else ((a.1,b.1,false),eatP s b.2.2 bad 125)
abbrev Rd:=Node × Nat × Int
def atomF (rec:Nat→Int→Rd) (s:List UInt8) (p:Nat) (bad:Int):Rd :=
 if gb s p=40 then
  let r:=rec (p + 1) bad
  if nx s r.2.1 r.2.2 41 then (r.1,eatP s r.2.1 r.2.2 41,r.2.2) else (.empty,eatP s r.2.1 r.2.2 41,if r.2.2 < 0 then (s.length:Int) else r.2.2)
 else if gb s p=46 then (.one dotS,p + 1,bad)
 else if gb s p=94 then (.mk 2 W4.zero 0 0 [],p + 1,bad)
 else if gb s p=36 then (.mk 3 W4.zero 0 0 [],p + 1,bad)
 else if gb s p=92 then
  if (escF s (p + 1) bad).2.1=true then (.one (escF s (p + 1) bad).1,(escF s (p + 1) bad).2.2,bad) else (.empty,(escF s (p + 1) bad).2.2,p)
 else if gb s p=91 then
  if (classF s (p + 1) bad).2.1=true then (.one (classF s (p + 1) bad).1,(classF s (p + 1) bad).2.2,bad) else (.empty,(classF s (p + 1) bad).2.2,p)
 else if ixB (gb s p).toNat [92,46,91,93,40,41,42,43,63,123,125,124,94,36] 0≥0 then (.empty,p + 1,p)
 else (.one (W4.zero.with (gb s p) (gb s p)),p + 1,bad)
def pieceG (s:List UInt8) (n:Node) (q:Nat) (bad:Int):Rd :=
 if nx s q bad 42 then (.mk 6 W4.zero 0 (-1) [n],eatP s q bad 42,bad)
 else if nx s (eatP s q bad 42) bad 43 then (.mk 6 W4.zero 1 (-1) [n],eatP s (eatP s q bad 42) bad 43,bad)
 else if nx s (eatP s (eatP s q bad 42) bad 43) bad 63 then (.mk 6 W4.zero 0 1 [n],eatP s (eatP s (eatP s q bad 42) bad 43) bad 63,bad)
 else if nx s (eatP s (eatP s (eatP s q bad 42) bad 43) bad 63) bad 123 then
  let r:=brcF s (eatP s (eatP s (eatP s (eatP s q bad 42) bad 43) bad 63) bad 123) bad
  if r.1.2.2=true then (.mk 6 W4.zero r.1.1 r.1.2.1 [n],r.2,bad) else (.empty,r.2,if bad < 0 then (q:Int) else bad)
 else (n,eatP s (eatP s (eatP s (eatP s q bad 42) bad 43) bad 63) bad 123,bad)
def pieceF (rec:Nat→Int→Rd) (s:List UInt8) (p:Nat) (bad:Int):Rd:=pieceG s (atomF rec s p bad).1 (atomF rec s p bad).2.1 (atomF rec s p bad).2.2
def loopF (rec:Nat→Int→Rd) (s:List UInt8):Nat→Nat→Int→List Node→List Node→List Node × List Node × Nat × Int
 | 0,p,bad,A,O=>(A,O,p,bad)
 | f + 1,p,bad,A,O =>
  if ¬ (bad < 0∧p < s.length) then (A,O,p,bad)
  else if (bad < 0∧p < s.length)∧oneOf [41] (gb s p)=true then (A,O,p,bad)
  else if nx s p bad 124 then loopF rec s f (eatP s p bad 124) bad (A++[catF O]) []
  else
   let r:=pieceF rec s (eatP s p bad 124) bad
   loopF rec s f r.2.1 r.2.2 A (O++[r.1])
def endF (l:List Node):Node:=match l with
 | [n]=>n
 | l => .mk 5 W4.zero 0 0 (flatF 5 l)
def altF (s:List UInt8):Nat→Nat→Int→Rd
 | 0,p,bad=>(.empty,p,bad)
 | f + 1,p,bad =>
  let r:=loopF (altF s f) s (s.length + 1) p bad [] []
  (endF (r.1++[catF r.2.1]),r.2.2.1,r.2.2.2)
def AltOK (m:Int) (fl rb:Nat) (s:List UInt8) (rec:Nat→Int→Rd) (p:Nat):Prop:=∀ (bad:Int) (h:List Blk),blkCells h rb=some (rdB s p bad)→cloH h.length h=true→∃ ks,evI (cfg m) fl 27 [.ptr rb 0] h=some (nAV (rec p bad).1 ks,setAt h rb (.cells (rdB s (rec p bad).2.1 (rec p bad).2.2)))∧KidsR (rec p bad).1.kids ks
theorem kn:KidsR [] .nilS:=⟨[], .nil _, .nil⟩
theorem cloH_rd {rb p:Nat} {h:List Blk} {s:List UInt8} {bad:Int} (hc:cloH h.length h=true):cloH (setAt h rb (.cells (rdB s p bad))).length (setAt h rb (.cells (rdB s p bad)))=true:=by
 rw [setAt_length];exact clo_rd hc
theorem atom_ok {m:Int} {fl rb p:Nat} {hp:List Blk} {s:List UInt8} {bad:Int} {rec:Nat→Int→Rd} (hrec:AltOK m fl rb s rec (p + 1)) (hb:blkCells hp rb=some (rdB s p bad)) (hp1:p < s.length) (hbad:bad < 0) (hc:cloH hp.length hp=true) (hf:fl≤rb) (hl:s.length≤256) :
  ∃ ks hp',evI (cfg m) fl 60 [.ptr rb 0] hp=some (nAV (atomF rec s p bad).1 ks,hp')∧KidsR (atomF rec s p bad).1.kids ks∧blkCells hp' rb=some (rdB s (atomF rec s p bad).2.1 (atomF rec s p bad).2.2)∧FrE [rb] hp hp':=by
 unfold atomF
 by_cases k0:gb s p=40
 ·rw [if_pos k0]
  obtain ⟨ks,h1,h2⟩:=hrec bad (setAt hp rb (.cells (rdB s (p + 1) bad))) (blk_set (blk_lt hb)) (cloH_rd hc)
  have hb1:=blk_set (cs:=rdB s (rec (p + 1) bad).2.1 (rec (p + 1) bad).2.2) (hp:=setAt hp rb (.cells (rdB s (p + 1) bad))) (b:=rb) (by rw [setAt_length];exact blk_lt hb)
  have hfr:FrE [rb] (setAt hp rb (.cells (rdB s (p + 1) bad))) (setAt (setAt hp rb (.cells (rdB s (p + 1) bad))) rb (.cells (rdB s (rec (p + 1) bad).2.1 (rec (p + 1) bad).2.2))):=FrE.set (List.mem_singleton.2 rfl)
  dsimp only
  by_cases he:nx s (rec (p + 1) bad).2.1 (rec (p + 1) bad).2.2 41
  ·rw [if_pos he]
   obtain ⟨hp',g1,g2,g3⟩:=at_grp1 (m:=m) (fl:=fl) hb hp1 k0 h1 hb1 hfr he hf hl
   exact ⟨ks,hp',g1,h2,g2,g3⟩
  ·rw [if_neg he]
   obtain ⟨hp',g1,g2,g3⟩:=at_grp0 (m:=m) (fl:=fl) hb hp1 k0 h1 hb1 hfr he hf hl
   exact ⟨.nilS,hp',g1,kn,g2,g3⟩
 rw [if_neg k0]
 by_cases k1:gb s p=46
 ·rw [if_pos k1]
  obtain ⟨hp',g1,g2,g3⟩:=at_dot (m:=m) (fl:=fl) hb hp1 k1 hf hl
  exact ⟨.nilS,hp',g1,kn,g2,g3⟩
 rw [if_neg k1]
 by_cases k2:gb s p=94
 ·rw [if_pos k2]
  obtain ⟨hp',g1,g2,g3⟩:=at_beg (m:=m) (fl:=fl) hb hp1 k2 hf hl
  exact ⟨.nilS,hp',g1,kn,g2,g3⟩
 rw [if_neg k2]
 by_cases k3:gb s p=36
 ·rw [if_pos k3]
  obtain ⟨hp',g1,g2,g3⟩:=at_end (m:=m) (fl:=fl) hb hp1 k3 hf hl
  exact ⟨.nilS,hp',g1,kn,g2,g3⟩
 rw [if_neg k3]
 by_cases k4:gb s p=92
 ·rw [if_pos k4]
  by_cases hk:(escF s (p + 1) bad).2.1=true
  ·rw [if_pos hk]
   obtain ⟨hp',g1,g2,g3⟩:=at_esc1 (m:=m) (fl:=fl) hb hp1 k4 rfl hk hf hl
   exact ⟨.nilS,hp',g1,kn,g2,g3⟩
  ·rw [if_neg hk]
   obtain ⟨hp',g1,g2,g3⟩:=at_esc0 (m:=m) (fl:=fl) hb hp1 k4 rfl (by simpa using hk) hbad hf hl
   exact ⟨.nilS,hp',g1,kn,g2,g3⟩
 rw [if_neg k4]
 by_cases k5:gb s p=91
 ·rw [if_pos k5]
  by_cases hk:(classF s (p + 1) bad).2.1=true
  ·rw [if_pos hk]
   obtain ⟨hp',g1,g2,g3⟩:=at_cls1 (m:=m) (fl:=fl) hb hp1 k5 rfl hk hf hl
   exact ⟨.nilS,hp',g1,kn,g2,g3⟩
  ·rw [if_neg hk]
   obtain ⟨hp',g1,g2,g3⟩:=at_cls0 (m:=m) (fl:=fl) hb hp1 k5 rfl (by simpa using hk) hbad hf hl
   exact ⟨.nilS,hp',g1,kn,g2,g3⟩
 rw [if_neg k5]
 by_cases hs:ixB (gb s p).toNat [92,46,91,93,40,41,42,43,63,123,125,124,94,36] 0≥0
 ·rw [if_pos hs]
  obtain ⟨hp',g1,g2,g3⟩:=at_spec (m:=m) (fl:=fl) hb hp1 k0 k1 k2 k3 k4 k5 hs hbad hf hl
  exact ⟨.nilS,hp',g1,kn,g2,g3⟩
 ·rw [if_neg hs]
  obtain ⟨hp',g1,g2,g3⟩:=at_lit (m:=m) (fl:=fl) hb hp1 k0 k1 k2 k3 k4 k5 hs hf hl
  exact ⟨.nilS,hp',g1,kn,g2,g3⟩
def ParseOK (m:Int):Prop:=∀ (t:List UInt8) (fl:Nat) (h:List Blk),(∀ c ∈ t,oneOf digs c=true)→t.length≤256→evI (cfg m) fl 82 [.str t] h=some (.tup [.int .i64 (parseF t).1, .bool (parseF t).2],h)
theorem digE_all {s:List UInt8} {bad:Int}:∀ (f p i:Nat),p≤i→i < digE s bad f p→oneOf digs (gb s i)=true
 | 0,p,i,h1,h2=>by simp [digE] at h2;omega
 | f + 1,p,i,h1,h2=>by
  unfold digE at h2
  by_cases hd:(bad < 0∧p < s.length)∧oneOf digs (gb s p)=true
  ·rw [if_pos hd] at h2
   by_cases he:i=p
   ·subst he;exact hd.2
   ·exact digE_all f (p + 1) i (by omega) h2
  ·rw [if_neg hd] at h2;omega
theorem digT_all {s:List UInt8} {p:Nat} {bad:Int} (hp:p≤s.length):∀ c ∈ digT s p (digE s bad (s.length + 1) p),oneOf digs c=true:=by
 intro c hc
 obtain ⟨i,hi,rfl⟩:=List.mem_iff_getElem.1 hc
 have hq:=(digE_bd (s:=s) (bad:=bad) (s.length + 1) p).2 hp
 have hi':=hi
 simp only [digT,List.length_take,List.length_drop] at hi'
 have:=digE_all (s:=s) (bad:=bad) (s.length + 1) p (p + i) (by omega) (by omega)
 unfold gb at this
 rw [List.getD_eq_getElem?_getD,List.getElem?_eq_getElem (by omega)] at this
 simp only [digT,List.getElem_take,List.getElem_drop]
 exact this
theorem number_ok {m:Int} {fl rb p:Nat} {hp:List Blk} {s:List UInt8} {bad:Int} (hP:ParseOK m) (hb:blkCells hp rb=some (rdB s p bad)) (hp1:p≤s.length) (hf:fl≤rb) (hl:s.length≤256):∃ hp',evI (cfg m) fl 73 [.ptr rb 0] hp=some (.tup [.int .i64 (numF s p bad).1, .bool (numF s p bad).2.1],hp')∧blkCells hp' rb=some (rdB s (numF s p bad).2.2 bad)∧FrE [rb] hp hp':=by
 have hq:=digE_bd (s:=s) (bad:=bad) (s.length + 1) p
 have hlen:(digT s p (digE s bad (s.length + 1) p)).length≤256:=by simp [digT];omega
 have hPP:=fun h=>hP (digT s p (digE s bad (s.length + 1) p)) fl h (digT_all hp1) hlen
 unfold numF
 by_cases hk:(parseF (digT s p (digE s bad (s.length + 1) p))).2=true
 ·obtain ⟨hp',g1,g2,g3⟩:=num_1 (m:=m) (fl:=fl) hb rfl hq.1 (hq.2 hp1) hPP hk hf hl
  exact ⟨hp',by rw [g1,hk];rfl,g2,g3⟩
 ·have hk':(parseF (digT s p (digE s bad (s.length + 1) p))).2=false:=by simpa using hk
  obtain ⟨hp',g1,g2,g3⟩:=num_0 (m:=m) (fl:=fl) hb rfl hq.1 (hq.2 hp1) hPP hk' hf hl
  exact ⟨hp',by rw [g1,hk'];rfl,g2,g3⟩
theorem numF_bd {s:List UInt8} {p:Nat} {bad:Int}:p≤(numF s p bad).2.2∧(p≤s.length→(numF s p bad).2.2≤s.length):=digE_bd _ _
theorem eatP_len {s:List UInt8} {p:Nat} {bad:Int} {c:UInt8} (h:p≤s.length):eatP s p bad c≤s.length:=by unfold eatP;split <;> omega
theorem brc_ok {m:Int} {fl rb p:Nat} {hp:List Blk} {s:List UInt8} {bad:Int} (hP:ParseOK m) (hb:blkCells hp rb=some (rdB s p bad)) (hp1:p≤s.length) (hf:fl≤rb) (hl:s.length≤256):∃ hp',evI (cfg m) fl 61 [.ptr rb 0] hp=some (.tup [.int .i64 (brcF s p bad).1.1, .int .i64 (brcF s p bad).1.2.1, .bool (brcF s p bad).1.2.2],hp')∧blkCells hp' rb=some (rdB s (brcF s p bad).2 bad)∧FrE [rb] hp hp':=by
 have hn1:∀ h,blkCells h rb=some (rdB s p bad)→_:=fun h hh=>number_ok (m:=m) (fl:=fl) hP hh hp1 hf hl
 have l1:=(numF_bd (s:=s) (p:=p) (bad:=bad)).2 hp1
 have l4:eatP s (eatP s (eatP s (numF s p bad).2.2 bad 125) bad 44) bad 125≤s.length:=eatP_len (eatP_len (eatP_len l1))
 have hn2:∀ h,blkCells h rb=some (rdB s (eatP s (eatP s (eatP s (numF s p bad).2.2 bad 125) bad 44) bad 125) bad)→_:=fun h hh=>number_ok (m:=m) (fl:=fl) hP hh l4 hf hl
 unfold brcF
 dsimp only
 by_cases e1:(numF s p bad).2.1=false
 ·rw [if_pos e1];exact br_a (q5:=0) (v2:=0) (k2:=true) hb hn1 e1 hf hl
 rw [if_neg e1]
 have e1':(numF s p bad).2.1=true:=by simpa using e1
 by_cases x1:nx s (numF s p bad).2.2 bad 125
 ·rw [if_pos x1];exact br_b (q5:=0) (v2:=0) (k2:=true) hb hn1 e1' x1 hf hl
 rw [if_neg x1]
 by_cases x2:nx s (eatP s (numF s p bad).2.2 bad 125) bad 44
 ·rw [if_neg (fun h=>h x2)]
  by_cases x3:nx s (eatP s (eatP s (numF s p bad).2.2 bad 125) bad 44) bad 125
  ·rw [if_pos x3];exact br_d (q5:=0) (v2:=0) (k2:=true) hb hn1 e1' x1 x2 x3 hf hl
  ·rw [if_neg x3]
   by_cases f2:(numF s (eatP s (eatP s (eatP s (numF s p bad).2.2 bad 125) bad 44) bad 125) bad).2.1=false
   ·rw [if_pos f2];exact br_e hb hn1 e1' x1 x2 x3 hn2 f2 hf hl
   ·rw [if_neg f2]
    have f2':=by simpa using f2
    by_cases x5:nx s (numF s (eatP s (eatP s (eatP s (numF s p bad).2.2 bad 125) bad 44) bad 125) bad).2.2 bad 125
    ·rw [if_pos x5];exact br_g hb hn1 e1' x1 x2 x3 hn2 f2' x5 hf hl
    ·rw [if_neg x5];exact br_f hb hn1 e1' x1 x2 x3 hn2 f2' x5 hf hl
 ·rw [if_pos x2];exact br_c (q5:=0) (v2:=0) (k2:=true) hb hn1 e1' x1 x2 hf hl
theorem kone {n:Node} {ks:AV} (h:KidsR n.kids ks):KidsR [n] (.lit 8 .exact [nAV n ks]):=⟨_, .lit _ _ _,NodesR.one (.of h)⟩
theorem piece_ok {m:Int} {fl rb p:Nat} {hp:List Blk} {s:List UInt8} {bad:Int} {rec:Nat→Int→Rd} (hP:ParseOK m) (hrec:AltOK m fl rb s rec (p + 1)) (hb:blkCells hp rb=some (rdB s p bad)) (hp1:p < s.length) (hbad:bad < 0) (hc:cloH hp.length hp=true) (hq:(atomF rec s p bad).2.1≤s.length) (hf:fl≤rb) (hl:s.length≤256) :
  ∃ ks hp',evI (cfg m) fl 44 [.ptr rb 0] hp=some (nAV (pieceF rec s p bad).1 ks,hp')∧KidsR (pieceF rec s p bad).1.kids ks∧blkCells hp' rb=some (rdB s (pieceF rec s p bad).2.1 (pieceF rec s p bad).2.2)∧FrE [rb] hp hp':=by
 obtain ⟨ks,hp1',a1,a2,a3,a4⟩:=atom_ok (m:=m) (fl:=fl) hrec hb hp1 hbad hc hf hl
 unfold pieceF
 generalize atomF rec s p bad=r at *
 obtain ⟨n,q,bad1⟩:=r
 dsimp only at *
 unfold pieceG
 by_cases x0:nx s q bad1 42
 ·rw [if_pos x0]
  obtain ⟨hp',g1,g2,g3⟩:=pc_42 (m:=m) (fl:=fl) a1 a3 a4 x0 hf hl
  exact ⟨_,hp',g1,kone a2,g2,g3⟩
 rw [if_neg x0]
 by_cases x1:nx s (eatP s q bad1 42) bad1 43
 ·rw [if_pos x1]
  obtain ⟨hp',g1,g2,g3⟩:=pc_43 (m:=m) (fl:=fl) a1 a3 a4 x0 x1 hf hl
  exact ⟨_,hp',g1,kone a2,g2,g3⟩
 rw [if_neg x1]
 by_cases x2:nx s (eatP s (eatP s q bad1 42) bad1 43) bad1 63
 ·rw [if_pos x2]
  obtain ⟨hp',g1,g2,g3⟩:=pc_63 (m:=m) (fl:=fl) a1 a3 a4 x0 x1 x2 hf hl
  exact ⟨_,hp',g1,kone a2,g2,g3⟩
 rw [if_neg x2]
 by_cases x3:nx s (eatP s (eatP s (eatP s q bad1 42) bad1 43) bad1 63) bad1 123
 ·rw [if_pos x3]
  have hbr:=fun h hh=>brc_ok (m:=m) (fl:=fl) (hp:=h) (bad:=bad1) hP hh (eatP_len (c:=123) (bad:=bad1) (eatP_len (c:=63) (bad:=bad1) (eatP_len (c:=43) (bad:=bad1) (eatP_len (c:=42) (bad:=bad1) hq)))) hf hl
  dsimp only
  by_cases hok:(brcF s (eatP s (eatP s (eatP s (eatP s q bad1 42) bad1 43) bad1 63) bad1 123) bad1).1.2.2=true
  ·rw [if_pos hok]
   obtain ⟨hp',g1,g2,g3⟩:=pc_br1 (m:=m) (fl:=fl) a1 a3 a4 x0 x1 x2 x3 hbr hok hf hl
   exact ⟨_,hp',g1,kone a2,g2,g3⟩
  ·rw [if_neg hok]
   obtain ⟨hp',g1,g2,g3⟩:=pc_br0 (m:=m) (fl:=fl) a1 a3 a4 x0 x1 x2 x3 hbr (by simpa using hok) hf hl
   exact ⟨_,hp',g1,kn,g2,g3⟩
 ·rw [if_neg x3]
  obtain ⟨hp',g1,g2,g3⟩:=pc_no (m:=m) (fl:=fl) a1 a3 a4 x0 x1 x2 x3 hf hl
  exact ⟨_,hp',g1,a2,g2,g3⟩
abbrev Btw (s:List UInt8) (p q:Nat):Prop:=p≤q∧q≤s.length
theorem Btw.refl {s:List UInt8} {p:Nat} (h:p≤s.length):Btw s p p:=⟨Nat.le_refl _,h⟩
theorem Btw.trans {s:List UInt8} {p q r:Nat} (h:Btw s p q) (g:Btw s q r):Btw s p r:=⟨Nat.le_trans h.1 g.1,g.2⟩
theorem eatP_b {s:List UInt8} {p:Nat} {bad:Int} {c:UInt8} (h:p≤s.length):Btw s p (eatP s p bad c):=⟨eatP_ge,eatP_len h⟩
theorem escF_b {s:List UInt8} {p:Nat} {bad:Int} (h:p≤s.length):Btw s p (escF s p bad).2.2:=by
 unfold escF Btw;split
 ·exact ⟨Nat.le_succ _,by dsimp only;omega⟩
 ·exact ⟨Nat.le_refl _,h⟩
theorem memF_b {s:List UInt8} {p:Nat} {bad:Int} (h:p≤s.length):Btw s p (memF s p bad).2.2:=by
 have e:=eatP_b (s:=s) (bad:=bad) (c:=92) h
 unfold memF
 split
 ·exact e.trans (escF_b e.2)
 ·split
  ·exact e
  ·rename_i h2
   have h3:eatP s p bad 92 < s.length:=by
    apply Decidable.byContradiction;intro h4;exact h2 fun h5=>h4 h5.2
   split
   ·exact e
   ·have:=e.1;exact ⟨by show p≤eatP s p bad 92 + 1;omega,h3⟩
theorem itemF_b {s:List UInt8} {p:Nat} {bad:Int} (h:p≤s.length):Btw s p (itemF s p bad).2.2:=by
 have a:=memF_b (bad:=bad) h
 have b:=a.trans (eatP_b (bad:=bad) (c:=45) a.2)
 have c:=b.trans (memF_b (bad:=bad) b.2)
 unfold itemF itemG
 split
 ·exact a
 ·split
  ·exact b
  ·split
   ·exact c
   ·exact c
theorem clsF_b {s:List UInt8} {bad:Int}:∀ (f p:Nat) (acc:W4) (first:Bool),p≤s.length→Btw s p (clsF s bad f p acc first).2
 | 0,p,_,_,h => .refl h
 | f + 1,p,acc,first,h=>by
  have e:Btw s p (if first=true then p else eatP s p bad 93):=by
   split
   ·exact .refl h
   ·exact eatP_b h
  have i:=e.trans (itemF_b (bad:=bad) e.2)
  unfold clsF
  generalize (if first=true then p else eatP s p bad 93)=w at e i ⊢
  split
  ·exact eatP_b h
  ·split
   ·exact i
   ·exact i.trans (clsF_b f _ _ _ i.2)
theorem classF_b {s:List UInt8} {p:Nat} {bad:Int} (h:p≤s.length):Btw s p (classF s p bad).2.2:=by
 have e:=eatP_b (s:=s) (bad:=bad) (c:=94) h
 have:=e.trans (clsF_b (bad:=bad) (s.length + 1) _ W4.zero true e.2)
 unfold classF
 generalize clsF s bad (s.length + 1) (eatP s p bad 94) W4.zero true=r at *
 obtain ⟨a,q⟩:=r
 cases a with
 | none=>exact this
 | some a=>dsimp only at *;split <;> exact this
theorem atomF_b {s:List UInt8} {p:Nat} {bad:Int} {rec:Nat→Int→Rd} (hp:p < s.length) (hr:∀ b,Btw s (p + 1) (rec (p + 1) b).2.1):Btw s (p + 1) (atomF rec s p bad).2.1:=by
 have h1:p + 1≤s.length:=hp
 unfold atomF
 split
 ·dsimp only
  split
  ·exact (hr bad).trans (eatP_b (hr bad).2)
  ·exact (hr bad).trans (eatP_b (hr bad).2)
 ·repeat' split
  all_goals first | exact .refl h1 | exact escF_b h1 | exact classF_b h1
theorem brcF_b {s:List UInt8} {p:Nat} {bad:Int} (h:p≤s.length):Btw s p (brcF s p bad).2:=by
 have n1:Btw s p (numF s p bad).2.2:=⟨numF_bd.1,numF_bd.2 h⟩
 have n2:=n1.trans (eatP_b (bad:=bad) (c:=125) n1.2)
 have n3:=n2.trans (eatP_b (bad:=bad) (c:=44) n2.2)
 have n4:=n3.trans (eatP_b (bad:=bad) (c:=125) n3.2)
 have n5:Btw s p (numF s (eatP s (eatP s (eatP s (numF s p bad).2.2 bad 125) bad 44) bad 125) bad).2.2:=n4.trans ⟨numF_bd.1,numF_bd.2 n4.2⟩
 have n6:=n5.trans (eatP_b (bad:=bad) (c:=125) n5.2)
 unfold brcF
 dsimp only
 repeat' split
 all_goals first | exact n1 | exact n2 | exact n3 | exact n4 | exact n5 | exact n6
theorem pieceF_b {s:List UInt8} {p:Nat} {bad:Int} {rec:Nat→Int→Rd} (hp:p < s.length) (hr:∀ b,Btw s (p + 1) (rec (p + 1) b).2.1):Btw s (p + 1) (pieceF rec s p bad).2.1:=by
 have a:=atomF_b (bad:=bad) hp hr
 unfold pieceF
 generalize atomF rec s p bad=r at *
 obtain ⟨n,q,b⟩:=r
 dsimp only at *
 have e1:=a.trans (eatP_b (bad:=b) (c:=42) a.2)
 have e2:=e1.trans (eatP_b (bad:=b) (c:=43) e1.2)
 have e3:=e2.trans (eatP_b (bad:=b) (c:=63) e2.2)
 have e4:=e3.trans (eatP_b (bad:=b) (c:=123) e3.2)
 have e5:=e4.trans (brcF_b (bad:=b) e4.2)
 unfold pieceG
 dsimp only
 repeat' split
 all_goals first | exact e1 | exact e2 | exact e3 | exact e4 | exact e5
theorem loopF_b {s:List UInt8} {rec:Nat→Int→Rd}:∀ (f p:Nat) (bad:Int) (A O:List Node),p≤s.length→(∀ q b,p < q→q≤s.length→Btw s q (rec q b).2.1)→Btw s p (loopF rec s f p bad A O).2.2.1
 | 0,p,bad,A,O,h,_ => .refl h
 | f + 1,p,bad,A,O,h,hr=>by
  unfold loopF
  split
  ·exact .refl h
  ·split
   ·exact .refl h
   ·rename_i h1 h2
    have hL:bad < 0∧p < s.length:=Decidable.byContradiction fun h=>h1 h
    split
    ·have e:=eatP_b (s:=s) (bad:=bad) (c:=124) h
     exact e.trans (loopF_b f _ _ _ _ e.2 fun q b h3=>hr q b (by have:=e.1;omega))
    ·rename_i h3
     have e:eatP s p bad 124=p:=eatP_f h3
     have i:=pieceF_b (bad:=bad) (rec:=rec) hL.2 (fun b=>hr (p + 1) b (by omega) hL.2)
     dsimp only
     rw [e]
     have i':Btw s p (pieceF rec s p bad).2.1:=⟨by have:=i.1;omega,i.2⟩
     exact i'.trans (loopF_b f _ _ _ _ i.2 fun q b h3=>hr q b (by have:=i.1;omega))
theorem altF_b {s:List UInt8}:∀ (f p:Nat) (bad:Int),p≤s.length→Btw s p (altF s f p bad).2.1
 | 0,p,bad,h => .refl h
 | f + 1,p,bad,h=>by
  unfold altF
  exact loopF_b _ _ _ _ _ h fun q b _ h2=>altF_b f q b h2
theorem dep1 {n:Node} (h:n.kids=[]):Dep 1 n:=fun k hk=>by rw [h] at hk;cases hk
theorem dep_pos {d:Nat} {n:Node} (h:Dep d n):0 < d:=by cases d with | zero=>exact h.elim | succ d=>omega
theorem flatF_dep {d:Nat} {kd:Int}:∀ {l:List Node},(∀ n ∈ l,Dep d n)→∀ n ∈ flatF kd l,Dep d n
 | [],_,n,hn=>by cases hn
 | a::l,h,n,hn=>by
  simp only [flatF,List.mem_append] at hn
  rcases hn with hn | hn
  ·by_cases ha:a.kind=kd
   ·rw [if_pos ha] at hn
    have:=h a (by simp)
    obtain ⟨e,rfl⟩:∃ e,d=e + 1:=⟨d - 1,by have:=dep_pos this;omega⟩
    exact (this n hn).mono (by omega)
   ·rw [if_neg ha] at hn
    have:n=a:=by simpa using hn
    exact this ▸ h a (by simp)
  ·exact flatF_dep (fun q hq=>h q (by simp [hq])) n hn
theorem catF_dep {d:Nat} {l:List Node} (h:∀ n ∈ l,Dep d n):Dep (d + 1) (catF l):=by
 have hw:∀ n ∈ full (flatF 4 l),Dep d n:=fun n hn=>flatF_dep h n (List.mem_filter.1 hn).1
 unfold catF
 match full (flatF 4 l),hw with
 | [],_=>exact fun k hk=>by cases hk
 | [n],hw=>exact (hw n (by simp)).mono (by omega)
 | n1::n2::f,hw=>exact hw
theorem endF_dep {d:Nat} {l:List Node} (h:∀ n ∈ l,Dep d n):Dep (d + 1) (endF l):=by
 unfold endF
 split
 ·exact (h _ (by simp)).mono (by omega)
 ·exact fun k hk=>flatF_dep h k hk
theorem atomF_dep {d p:Nat} {s:List UInt8} {bad:Int} {rec:Nat→Int→Rd} (hr:∀ b,Dep d (rec (p + 1) b).1):Dep d (atomF rec s p bad).1:=by
 have h0:=dep_pos (hr 0)
 have e1:∀ n:Node,n.kids=[]→Dep d n:=fun n h=>(dep1 h).mono h0
 unfold atomF
 split
 ·dsimp only
  split
  ·exact hr bad
  ·exact e1 _ rfl
 ·repeat' split
  all_goals exact e1 _ rfl
theorem pieceF_dep {d p:Nat} {s:List UInt8} {bad:Int} {rec:Nat→Int→Rd} (hr:∀ b,Dep d (rec (p + 1) b).1):Dep (d + 1) (pieceF rec s p bad).1:=by
 have a:=atomF_dep (s:=s) (bad:=bad) hr
 have h1:∀ (lo hi:Int),Dep (d + 1) (.mk 6 W4.zero lo hi [(atomF rec s p bad).1]):=fun lo hi k hk=>by
  have:k=(atomF rec s p bad).1:=by simpa [Node.kids] using hk
  exact this ▸ a
 have h2:Dep (d + 1) Node.empty:=fun k hk=>by cases hk
 unfold pieceF pieceG
 dsimp only
 repeat' split
 all_goals first | exact h1 _ _ | exact h2 | exact a.mono (by omega)
def wt (n:Node):Nat:=max 1 n.kids.length
def wts:List Node→Nat
 | []=>0
 | n::l=>wt n + wts l
theorem wts_len:∀ {l:List Node},l.length≤wts l
 | []=>Nat.le_refl _
 | n::l=>by have:=wts_len (l:=l);simp only [List.length_cons,wts,wt];omega
end Go.Proofs.YtanopbolgfcojaaGreatDoor.E.SZ
namespace Go.Proofs.YtanopbolgfcojaaGreatDoor.E
mutual
def Node.lw:Node→Nat
 | .mk _ _ _ _ l=>max 1 (lws l)
def lws:List Node→Nat
 | []=>0
 | n::l=>n.lw + lws l
end
theorem Node.lw_eq (n:Node):n.lw=max 1 (lws n.kids):=by cases n;simp only [Node.lw,Node.kids]
theorem lws_app {a b:List Node}:lws (a++b)=lws a + lws b:=by
 induction a with
 | nil=>simp [lws]
 | cons x a ih=>simp only [List.cons_append,lws,ih];omega
theorem lw_pos (n:Node):1≤n.lw:=by rw [n.lw_eq];omega
theorem lws_len:∀ {l:List Node},l.length≤lws l
 | []=>Nat.le_refl _
 | n::l=>by have:=lws_len (l:=l);have:=lw_pos n;simp only [List.length_cons,lws];omega
end Go.Proofs.YtanopbolgfcojaaGreatDoor.E
namespace Go.Proofs.YtanopbolgfcojaaGreatDoor.E.SZ
open Go Go.Proofs E E.R
theorem flatF_lws {kd:Int}:∀ {l:List Node},lws (flatF kd l)≤lws l
 | []=>Nat.le_refl _
 | n::l=>by
  have:=flatF_lws (kd:=kd) (l:=l)
  have e:=n.lw_eq
  simp only [flatF,lws_app,lws]
  split
  ·omega
  ·simp only [lws];omega
theorem full_lws:∀ {l:List Node},lws (full l)≤lws l
 | []=>Nat.le_refl _
 | n::l=>by
  have ih:=full_lws (l:=l)
  unfold full at ih ⊢
  rw [List.filter_cons]
  split
  ·simp only [lws];omega
  ·simp only [lws];omega
theorem catF_lw {l:List Node}:(catF l).lw≤max 1 (lws l):=by
 have h:lws (full (flatF 4 l))≤lws l:=Nat.le_trans full_lws flatF_lws
 unfold catF
 split
 ·rw [Node.lw_eq];simp [Node.empty,Node.kids,lws];omega
 ·rename_i n he
  rw [he] at h;simp only [lws] at h;omega
 ·rename_i he h2
  rw [Node.lw_eq];simp only [Node.kids];omega
theorem endF_lw {l:List Node}:(endF l).lw≤max 1 (lws l):=by
 unfold endF
 split
 ·simp only [lws];omega
 ·rw [Node.lw_eq];simp only [Node.kids]
  have:=flatF_lws (kd:=5) (l:=l)
  omega
end Go.Proofs.YtanopbolgfcojaaGreatDoor.E.SZ
/- How deep and how wide: the whole. -/
namespace Go.Proofs.YtanopbolgfcojaaGreatDoor.E.SZ
open Go Go.Proofs E E.R
theorem atomF_lw {p : Nat} {s : List UInt8} {bad : Int} {rec : Nat → Int → Rd} (hp : p < s.length) (hb : ∀ b, Btw s (p + 1) (rec (p + 1) b).2.1) (hr : ∀ b, (rec (p + 1) b).1.lw ≤ (rec (p + 1) b).2.1 - (p + 1) + 1) : (atomF rec s p bad).1.lw ≤ (atomF rec s p bad).2.1 - p := by
  have hB := (atomF_b (bad := bad) hp hb).1
  have e1 : ∀ n : Node, n.kids = [] → n.lw = 1 := fun n h => by rw [n.lw_eq, h]; rfl
  by_cases k0 : gb s p = 40
  · have h1 := hr bad
    have h2 := hb bad
    unfold atomF
    rw [if_pos k0]
    dsimp only
    split
    · have := (eatP_b (bad := (rec (p + 1) bad).2.2) (c := 41) h2.2).1
      dsimp only; omega
    · have := (eatP_b (bad := (rec (p + 1) bad).2.2) (c := 41) h2.2).1
      rw [e1 _ rfl]; dsimp only; omega
  · have : (atomF rec s p bad).1.lw = 1 := by
      unfold atomF
      rw [if_neg k0]
      repeat' split
      all_goals exact e1 _ rfl
    omega
theorem pieceF_lw {p : Nat} {s : List UInt8} {bad : Int} {rec : Nat → Int → Rd} (hp : p < s.length) (hb : ∀ b, Btw s (p + 1) (rec (p + 1) b).2.1) (hr : ∀ b, (rec (p + 1) b).1.lw ≤ (rec (p + 1) b).2.1 - (p + 1) + 1) : (pieceF rec s p bad).1.lw ≤ (pieceF rec s p bad).2.1 - p := by
  have a := atomF_lw (bad := bad) hp hb hr
  have hA := atomF_b (bad := bad) hp hb
  have hP := pieceF_b (bad := bad) hp hb
  unfold pieceF at hP ⊢
  generalize atomF rec s p bad = r at *
  obtain ⟨n, q, b⟩ := r
  dsimp only at *
  have e0 : ∀ lo hi : Int, (Node.mk 6 W4.zero lo hi [n]).lw = n.lw := fun lo hi => by
    rw [Node.lw_eq]; simp only [Node.kids, lws]; have := lw_pos n; omega
  have e1 := hA.trans (eatP_b (bad := b) (c := 42) hA.2)
  have e2 := e1.trans (eatP_b (bad := b) (c := 43) e1.2)
  have e3 := e2.trans (eatP_b (bad := b) (c := 63) e2.2)
  have e4 := e3.trans (eatP_b (bad := b) (c := 123) e3.2)
  have g2 := eatP_b (s := s) (bad := b) (c := 42) hA.2
  have g3 := eatP_b (s := s) (bad := b) (c := 43) e1.2
  have g4 := eatP_b (s := s) (bad := b) (c := 63) e2.2
  have g5 := eatP_b (s := s) (bad := b) (c := 123) e3.2
  have g6 := brcF_b (s := s) (bad := b) e4.2
  unfold pieceG at hP ⊢
  dsimp only at *
  repeat' split
  all_goals first
    | (rw [e0]; dsimp only; omega)
    | (have : Node.empty.lw = 1 := by rw [Node.lw_eq]; rfl
       dsimp only; omega)
    | (dsimp only; omega)
end Go.Proofs.YtanopbolgfcojaaGreatDoor.E.SZ
namespace Go.Proofs.YtanopbolgfcojaaGreatDoor.E.SZ
open Go Go.Proofs E E.R
theorem loopF_lw {s:List UInt8} {d:Nat} {rec:Nat→Int→Rd}:∀ (f p:Nat) (bad:Int) (A O:List Node),p≤s.length→(∀ q b,p < q→q≤s.length→Btw s q (rec q b).2.1∧(rec q b).1.lw≤(rec q b).2.1 - q + 1∧Dep d (rec q b).1)→(∀ n ∈ A,Dep (d + 2) n)→(∀ n ∈ O,Dep (d + 1) n) →
  lws (loopF rec s f p bad A O).1 + lws (loopF rec s f p bad A O).2.1≤lws A + lws O + ((loopF rec s f p bad A O).2.2.1 - p)∧(∀ n ∈ (loopF rec s f p bad A O).1,Dep (d + 2) n)∧∀ n ∈ (loopF rec s f p bad A O).2.1,Dep (d + 1) n
 | 0,p,bad,A,O,h,_,hA,hO=>⟨by simp only [loopF];omega,hA,hO⟩
 | f + 1,p,bad,A,O,h,hr,hA,hO=>by
  have hB:=loopF_b (rec:=rec) (f + 1) p bad A O h fun q b h1 h2=>(hr q b h1 h2).1
  unfold loopF at hB ⊢
  split
  ·exact ⟨by dsimp only;omega,hA,hO⟩
  ·rename_i h1
   split
   ·exact ⟨by dsimp only;omega,hA,hO⟩
   ·have hL:bad < 0∧p < s.length:=Decidable.byContradiction fun h=>h1 h
    split
    ·rename_i h2 h3
     have e:eatP s p bad 124=p + 1:=eatP_t h3
     rw [e]
     obtain ⟨g1,g2,g3⟩:=loopF_lw (d:=d) (rec:=rec) f (p + 1) bad (A++[catF O]) [] hL.2 (fun q b h4=>hr q b (by omega)) (fun n hn=>by
      rcases List.mem_append.1 hn with hn | hn
      ·exact hA n hn
      ·have:n=catF O:=by simpa using hn
       exact this ▸ catF_dep hO) (fun n hn=>by cases hn)
     have c:=catF_lw (l:=O)
     have b:=(loopF_b (rec:=rec) f (p + 1) bad (A++[catF O]) [] hL.2 fun q b h1 h2=>(hr q b (by omega) h2).1).1
     simp only [lws_app,lws] at g1
     exact ⟨by omega,g2,g3⟩
    ·rename_i h2 h3
     have e:eatP s p bad 124=p:=eatP_f h3
     dsimp only
     rw [e]
     have hr1:∀ b,Btw s (p + 1) (rec (p + 1) b).2.1:=fun b=>(hr (p + 1) b (by omega) hL.2).1
     have i:=pieceF_b (bad:=bad) (rec:=rec) hL.2 hr1
     have w:=pieceF_lw (bad:=bad) hL.2 hr1 fun b=>(hr (p + 1) b (by omega) hL.2).2.1
     have dp:=pieceF_dep (s:=s) (bad:=bad) (d:=d) fun b=>(hr (p + 1) b (by omega) hL.2).2.2
     obtain ⟨g1,g2,g3⟩:=loopF_lw (d:=d) (rec:=rec) f (pieceF rec s p bad).2.1 (pieceF rec s p bad).2.2 A (O++[(pieceF rec s p bad).1]) i.2 (fun q b h4=>hr q b (by have:=i.1;omega)) hA (fun n hn=>by
      rcases List.mem_append.1 hn with hn | hn
      ·exact hO n hn
      ·have:n=(pieceF rec s p bad).1:=by simpa using hn
       exact this ▸ dp)
     have b:=(loopF_b (rec:=rec) f (pieceF rec s p bad).2.1 (pieceF rec s p bad).2.2 A (O++[(pieceF rec s p bad).1]) i.2 fun q b h1 h2=>(hr q b (by have:=i.1;omega) h2).1).1
     simp only [lws_app,lws] at g1
     have:=i.1
     exact ⟨by omega,g2,g3⟩
theorem altF_all {s:List UInt8}:∀ (f p:Nat) (bad:Int),p≤s.length→Btw s p (altF s f p bad).2.1∧(altF s f p bad).1.lw≤(altF s f p bad).2.1 - p + 1∧Dep (3 * f + 1) (altF s f p bad).1
 | 0,p,bad,h=>⟨.refl h,by rw [Node.lw_eq];simp [altF,Node.empty,Node.kids,lws],fun k hk=>by cases hk⟩
 | f + 1,p,bad,h=>by
  refine ⟨altF_b _ _ _ h, ?_⟩
  obtain ⟨g1,g2,g3⟩:=loopF_lw (d:=3 * f + 1) (rec:=altF s f) (s.length + 1) p bad [] [] h (fun q b _ h2=>altF_all f q b h2) (fun n hn=>by cases hn) (fun n hn=>by cases hn)
  unfold altF
  dsimp only
  have c:=catF_lw (l:=(loopF (altF s f) s (s.length + 1) p bad [] []).2.1)
  have e:=endF_lw (l:=(loopF (altF s f) s (s.length + 1) p bad [] []).1++[catF (loopF (altF s f) s (s.length + 1) p bad [] []).2.1])
  simp only [lws_app,lws] at e g1
  refine ⟨by omega,endF_dep (d:=3 * f + 3) fun n hn => ?_⟩
  rcases List.mem_append.1 hn with hn | hn
  ·exact g2 n hn
  ·have:n=catF (loopF (altF s f) s (s.length + 1) p bad [] []).2.1:=by simpa using hn
   exact this ▸ catF_dep g3
theorem al_loop {m:Int} {fl n0 rb:Nat} {hp0:List Blk} {s:List UInt8} {d:Nat} {rec:Nat→Int→Rd} (hP:ParseOK m) (hfn:fl≤n0) (hf:fl≤rb) (hrb:rb < n0) (hl:s.length≤256) (hcl:cloH n0 hp0=true) (hd:d≤5000):∀ (f p:Nat) (bad:Int) {A O:List Node} {hp:List Blk} {x y:AV} {vA vO:List AV},s.length + 1≤f + p→p≤s.length→blkCells hp rb=some (rdB s p bad)→Row2 n0 rb hp0 hp x y vA vO→NodesR A vA→NodesR O vO →
  (∀ q,p < q→q≤s.length→AltOK m fl rb s rec q)→(∀ q b,p < q→q≤s.length→Btw s q (rec q b).2.1∧(rec q b).1.lw≤(rec q b).2.1 - q + 1∧Dep d (rec q b).1)→(∀ n ∈ O,Dep (d + 1) n)→lws A + lws O≤p→(vA=[]→x = .nilS) →
  ∃ hp' x' y' vA' vO',(vA'=[]→x' = .nilS)∧LoopI (cfg m) fl 27 (bodyAt (cfg m) 27 2) 2 ⟨alSt rb x y,hp⟩ (.exit 0) ⟨alEnd x' y',hp'⟩∧Row2 n0 rb hp0 hp' x' y' vA' vO'∧NodesR (loopF rec s f p bad A O).1 vA'∧NodesR (loopF rec s f p bad A O).2.1 vO'∧blkCells hp' rb=some (rdB s (loopF rec s f p bad A O).2.2.1 (loopF rec s f p bad A O).2.2.2)
 | 0,p,bad,A,O,hp,x,y,vA,vO,h,hp1,hb,hR,hA,hO,_,_,_,_,_=>by omega
 | f + 1,p,bad,A,O,hp,x,y,vA,vO,h,hp1,hb,hR,hA,hO,hrec,hbd,hdO,hw,hx0=>by
  unfold loopF
  by_cases hL:bad < 0∧p < s.length
  ·rw [if_neg (fun h=>h hL)]
   by_cases hN:(bad < 0∧p < s.length)∧oneOf [41] (gb s p)=true
   ·rw [if_pos hN]
    exact ⟨hp,x,y,vA,vO,hx0,al_x2 hb hL hN,hR,hA,hO,hb⟩
   ·rw [if_neg hN]
    have a1:=wts_len (l:=A)
    have l1:=lws_len (l:=A)
    have l2:=lws_len (l:=O)
    have r1:=hA.1
    have r2:=hO.1
    by_cases hE:nx s p bad 124
    ·rw [if_pos hE]
     have e:eatP s p bad 124=p + 1:=eatP_t hE
     have hct:∀ h,∃ ks,evI (cfg m) fl 43 [y] h=some (nAV (catF O) ks,h)∧KidsR (catF O).kids ks:=fun h=>by
      have fl1:=flatF_lws (kd:=4) (l:=O)
      have fl2:=lws_len (l:=flatF 4 O)
      obtain ⟨v,c1,c2,_⟩:=cat_ok (m:=m) (fl:=fl) (hp:=h) hR.gy.isSl hO (by omega) (by omega) hdO (by omega)
      obtain ⟨ks,rfl,hk⟩:=c2.to
      exact ⟨ks,c1,hk⟩
     obtain ⟨hp',x',ks,s1,s2,s3,s4⟩:=al_bar (m:=m) hb hR hrb hL hN hE hct (by omega) hfn hf hl
     rw [e] at s4 ⊢
     have c:=catF_lw (l:=O)
     obtain ⟨hp2,x2,y2,vA2,vO2,t0,t1,t2⟩:=al_loop (d:=d) (rec:=rec) hP hfn hf hrb hl hcl hd f (p + 1) bad (A:=A++[catF O]) (O:=[]) (by omega) hL.2 s4 s3 (hA.app (NodesR.one (.of s2))) .nil (fun q h=>hrec q (by omega)) (fun q b h=>hbd q b (by omega)) (fun n hn=>by cases hn) (by simp only [lws_app,lws];omega) (fun e=>by simp at e)
     exact ⟨hp2,x2,y2,vA2,vO2,t0,s1 _ _ t1,t2⟩
    ·rw [if_neg hE]
     have e:eatP s p bad 124=p:=eatP_f hE
     dsimp only
     have hr1:∀ b,Btw s (p + 1) (rec (p + 1) b).2.1:=fun b=>(hbd (p + 1) b (by omega) hL.2).1
     have i:=pieceF_b (bad:=bad) (rec:=rec) hL.2 hr1
     have w:=pieceF_lw (bad:=bad) hL.2 hr1 fun b=>(hbd (p + 1) b (by omega) hL.2).2.1
     have dp:=pieceF_dep (s:=s) (bad:=bad) (d:=d) fun b=>(hbd (p + 1) b (by omega) hL.2).2.2
     have hpc:∀ h,blkCells h rb=some (rdB s (eatP s p bad 124) bad)→FrE [rb] hp h→∃ ks h',evI (cfg m) fl 44 [.ptr rb 0] h=some (nAV (pieceF rec s p bad).1 ks,h')∧KidsR (pieceF rec s p bad).1.kids ks∧blkCells h' rb=some (rdB s (pieceF rec s p bad).2.1 (pieceF rec s p bad).2.2)∧FrE [rb] h h':=fun h hh hfr=>by
      rw [e] at hh
      have hR':=hR.frE hfr hb hrb
      exact piece_ok hP (hrec (p + 1) (by omega) hL.2) hh hL.2 hL.1 (hR'.clo hcl hh) (atomF_b hL.2 hr1).2 hf hl
     obtain ⟨hp',y',ks,s1,s2,s3,s4⟩:=al_pc (m:=m) hb hR hrb hL hN hE hpc (by omega) hfn hf hl
     rw [e]
     obtain ⟨hp2,x2,y2,vA2,vO2,t0,t1,t2⟩:=al_loop (d:=d) (rec:=rec) hP hfn hf hrb hl hcl hd f (pieceF rec s p bad).2.1 (pieceF rec s p bad).2.2 (A:=A) (O:=O++[(pieceF rec s p bad).1]) (by have:=i.1;omega) i.2 s4 s3 hA (hO.app (NodesR.one (.of s2))) (fun q h=>hrec q (by have:=i.1;omega)) (fun q b h=>hbd q b (by have:=i.1;omega)) (fun n hn=>by
      rcases List.mem_append.1 hn with hn | hn
      ·exact hdO n hn
      ·have:n=(pieceF rec s p bad).1:=by simpa using hn
       exact this ▸ dp) (by simp only [lws_app,lws];have:=i.1;omega) hx0
     exact ⟨hp2,x2,y2,vA2,vO2,t0,s1 _ _ t1,t2⟩
  ·rw [if_pos hL]
   exact ⟨hp,x,y,vA,vO,hx0,al_x1 hb hL,hR,hA,hO,hb⟩
theorem gr_app {n sz:Nat} {hp:List Blk} {x:AV} {vs:List AV} (h:Gr n sz hp x vs) (hv:vs≠[]):∃ g,x = .lit sz (.fam g 0) vs:=by
 rcases h with ⟨_,h⟩ | ⟨g,h,_⟩
 ·exact absurd h hv
 ·exact ⟨g,h⟩
theorem endF_2 {l:List Node} (h:2≤l.length):endF l = .mk 5 W4.zero 0 0 (flatF 5 l):=by
 match l with
 | []=>simp at h
 | [a]=>simp at h
 | a::b::l=>rfl
theorem take_pre {n rb:Nat} {hp h2 h3:List Blk} {cs:List AV} (h:PreN h2.length h2 h3) (h1:h2.take hp.length=setAt hp rb (.cells cs)) (h0:hp.length≤h2.length):h3.take hp.length=setAt hp rb (.cells cs):=by
 rw [← h1]
 apply List.ext_getElem?
 intro i
 by_cases hi:i < hp.length
 ·rw [List.getElem?_take_of_lt hi,List.getElem?_take_of_lt hi,← getAt_eq,← getAt_eq]
  exact h.2 i (by omega)
 ·rw [List.getElem?_eq_none (by rw [List.length_take];omega),List.getElem?_eq_none (by rw [List.length_take];omega)]
theorem alt_ok {m:Int} {fl rb:Nat} {s:List UInt8} (hP:ParseOK m) (hf:fl≤rb) (hl:s.length≤256):∀ (f p:Nat),s.length + 1≤f + p→p≤s.length→f≤300→AltOK m fl rb s (altF s f) p
 | 0,p,h,hp,_=>by omega
 | f + 1,p,h,hp1,hf3=>by
  intro bad hp hb hc
  have hrb:=blk_lt hb
  obtain ⟨hp',x',y',vA,vO,t0,t1,t2,t3,t4,t5⟩:=al_loop (m:=m) (fl:=fl) (n0:=hp.length) (rb:=rb) (hp0:=hp) (s:=s) (d:=3 * f + 1) (rec:=altF s f) hP (by omega) hf hrb hl hc (by omega) (s.length + 1) p bad (A:=[]) (O:=[]) (by omega) hp1 hb (.start rfl) .nil .nil (fun q h1 h2=>alt_ok hP hf hl f q (by omega) h2 (by omega)) (fun q b h1 h2=>altF_all f q b h2) (fun n hn=>by cases hn) (by simp [lws]) (fun _=>rfl)
  obtain ⟨g1,g2,g3⟩:=loopF_lw (d:=3 * f + 1) (rec:=altF s f) (s.length + 1) p bad [] [] hp1 (fun q b _ h2=>altF_all f q b h2) (fun n hn=>by cases hn) (fun n hn=>by cases hn)
  have g4:=(loopF_b (rec:=altF s f) (s.length + 1) p bad [] [] hp1 fun q b h1 h2=>(altF_all f q b h2).1).2
  unfold altF
  dsimp only
  generalize loopF (altF s f) s (s.length + 1) p bad [] []=r at *
  obtain ⟨A,O,q,b1⟩:=r
  dsimp only at *
  simp only [lws] at g1
  have l1:=lws_len (l:=A)
  have l2:=lws_len (l:=O)
  have r1:=t3.1
  have r2:=t4.1
  have fl1:=flatF_lws (kd:=4) (l:=O)
  have fl2:=lws_len (l:=flatF 4 O)
  obtain ⟨v,c1,c2,c3⟩:=cat_ok (m:=m) (fl:=fl) (hp:=hp') t2.gy.isSl t4 (by omega) (by omega) g3 (by omega)
  by_cases hA:A=[]
  ·subst hA
   have hv:vA=[]:=List.eq_nil_of_length_eq_zero r1
   subst hv
   have hx:=t0 rfl
   subst hx
   obtain ⟨v',e1,e2⟩:=shut_node hp.length 100000 c3 c2 (by omega)
   obtain ⟨ks,rfl,hk⟩:=c2.to
   obtain ⟨ks',rfl,hk'⟩:=e2.to
   exact ⟨ks',al_e1 t1 c1 t2 t5 e1 hc hrb,hk'⟩
  ·obtain ⟨a,A',rfl⟩:=List.exists_cons_of_ne_nil hA
   simp only [lws] at l1 g1
   obtain ⟨ks,rfl,hk⟩:=c2.to
   obtain ⟨x2,hp2,k1,k2,k3⟩:=t2.append_x (C:=cfg m) (fl:=fl) (v:=nAV (catF O) ks) (t:=41) (o := .exact) (by kernel_rfl) (by omega) (by omega) hrb
   obtain ⟨g,rfl⟩:=gr_app k2.gx (by simp)
   have hN:=t3.app (NodesR.one (.of hk))
   have fl3:=flatF_lws (kd:=5) (l:=a::A'++[catF O])
   have fl4:=lws_len (l:=flatF 5 (a::A'++[catF O]))
   have cw:=catF_lw (l:=O)
   rw [lws_app] at fl3
   simp only [lws] at fl3
   obtain ⟨o,hp3,us,f1,f2,f3,f4⟩:=flat_ok (m:=m) (fl:=fl) (kd:=5) (hp:=hp2) k2.gx.isSl hN (by simp;simp at r1 l1;omega) (Nat.lt_of_le_of_lt fl4 (by omega)) (by have:=k2.len;omega)
   rw [endF_2 (by simp)]
   have htk:=take_pre (n:=0) f4 (k2.take' (k3 _ t5) hrb) k2.len
   have hdp:∀ n ∈ flatF 5 (a::A'++[catF O]),Dep (3 * f + 3) n:=flatF_dep fun n hn=>by
    rcases List.mem_append.1 hn with hn | hn
    ·exact g2 n hn
    ·have:n=catF O:=by simpa using hn
     exact this ▸ c3
   have fr:=f2.rowT
   obtain ⟨w,s1,s2⟩:=shut_rowT (k:=hp.length) (D:=99999) fr f3 hdp k2.len (by omega)
   rcases fr with ⟨rfl,rfl⟩ | ⟨b,rest,rfl,_⟩
   ·have hnil:=f3.1
    have:flatF 5 (a::A'++[catF O])=[]:=List.eq_nil_of_length_eq_zero (by simpa using hnil.symm)
    rw [this]
    exact ⟨.nilS,al_e3 t1 c1 k1 (by simp;simp at r1;omega) f1 htk hc hrb,kn⟩
   ·have sh:=shut_agg (n := .mk 5 W4.zero 0 0 (flatF 5 (a::A'++[catF O]))) s1 (by omega)
    exact ⟨w,al_e2 t1 c1 k1 (by simp;simp at r1;omega) f1 sh htk hc hrb,s2⟩
end Go.Proofs.YtanopbolgfcojaaGreatDoor.E.SZ
